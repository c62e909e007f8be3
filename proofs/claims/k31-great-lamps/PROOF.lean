import PyProof.Rows.All
import Wide.All
import OpenK.AllK
import Wide.FinOn
import HandS.ForMost
import HandS.Conv
import HandS.SortInts
import HandS.SortRule
import HandS.Deep
import HandS.IsInst
import HandS.Flow
import HandS.Style
import HandS.Rev
import HandS.Small
import KE.SortData
import HandS.AnyAll
import HandS.TupAny
import HandS.Zip
import HandS.RevTup
import KE.SortCalls
import HandS.DictComp
import HandS.More
import HandS.Set
import HandS.SetFor
import HandS.EndBits
import HandS.DictTup
import HandS.Dict
import PyProof.Rows.TupDisplay
import KE.DataMinMax
import HandS.GenOver
import HandS.EndOwn
import HandS.TupLen
import HandS.TupSets
import KE.BitLaws
import PySem.Challenge.RW_chasedwebs_k31_whole_lamps_of_great_webs
set_option Elab.async false
set_option maxRecDepth 100000
set_option maxHeartbeats 4000000
namespace Mir
open PySem L2

/-! ### data over a heap -/
def kD : Key → PyData
  | .inl i => .int i
  | .inr x => .str x
def kTD (ks : List Key) : PyData := .tuple (ks.map kD)
mutual
inductive Rp (F : Hp) : V → PyData → Prop
  | non : Rp F .non .none
  | bl (b : Bool) : Rp F (.bl b) (.bool b)
  | int (i : Int) : Rp F (.int i) (.int i)
  | str (x : Str) : Rp F (.str x) (.str x)
  | lst {a : Addr} {xs : List V} {ds : List PyData} : F a = some (.lst xs) → Rps F xs ds → Rp F (.ref a) (.list ds)
  | tup {a : Addr} {xs : List V} {ds : List PyData} : F a = some (.tup xs) → Rps F xs ds → Rp F (.ref a) (.tuple ds)
  | dk {a : Addr} {ws : List (Key × V)} {kvs : List (PyData × PyData)} : F a = some (.dK ws) → RpK F ws kvs → Rp F (.ref a) (.dict kvs)
  | dt {a : Addr} {ws : List (List Key × V)} {kvs : List (PyData × PyData)} : F a = some (.dT ws) → ws ≠ [] → RpT F ws kvs → Rp F (.ref a) (.dict kvs)
inductive Rps (F : Hp) : List V → List PyData → Prop
  | nil : Rps F [] []
  | cons {v : V} {vs : List V} {d : PyData} {ds : List PyData} : Rp F v d → Rps F vs ds → Rps F (v :: vs) (d :: ds)
inductive RpK (F : Hp) : List (Key × V) → List (PyData × PyData) → Prop
  | nil : RpK F [] []
  | cons {k : Key} {v : V} {ws : List (Key × V)} {d : PyData} {kvs : List (PyData × PyData)} : Rp F v d → RpK F ws kvs → RpK F ((k, v) :: ws) ((kD k, d) :: kvs)
inductive RpT (F : Hp) : List (List Key × V) → List (PyData × PyData) → Prop
  | nil : RpT F [] []
  | cons {k : List Key} {v : V} {ws : List (List Key × V)} {d : PyData} {kvs : List (PyData × PyData)} : Rp F v d → RpT F ws kvs → RpT F ((k, v) :: ws) ((kTD k, d) :: kvs)
end
/-! no dict in it -/
mutual
def nod : PyData → Bool
  | .dict _ => false
  | .list xs => nodAll xs
  | .tuple xs => nodAll xs
  | .none => true
  | .bool _ => true
  | .int _ => true
  | .str _ => true
def nodAll : List PyData → Bool
  | [] => true
  | x :: xs => nod x && nodAll xs
end
mutual
theorem nod_of_lay : ∀ d : PyData, d.canLay0 = true → nod d = true
  | .dict _, h => by simp [PyData.canLay0] at h
  | .list xs, h => by
    simp only [nod]
    exact nodAll_of_lay xs (by simpa [PyData.canLay0] using h)
  | .tuple xs, h => by
    simp only [nod]
    exact nodAll_of_lay xs (by simpa [PyData.canLay0] using h)
  | .none, _ => by simp only [nod]
  | .bool _, _ => by simp only [nod]
  | .int _, _ => by simp only [nod]
  | .str _, _ => by simp only [nod]
theorem nodAll_of_lay : ∀ xs : List PyData, PyData.canLayAll0 xs = true → nodAll xs = true
  | [], _ => by simp only [nodAll]
  | x :: xs, h => by
    have h' : x.canLay0 = true ∧ PyData.canLayAll0 xs = true := by simpa [PyData.canLayAll0] using h
    simp only [nodAll, nod_of_lay x h'.1, nodAll_of_lay xs h'.2, Bool.and_self]
end
mutual
theorem nod_of_alike : ∀ d : PyData, PySem.W.alike d d = true → nod d = true
  | .dict _, h => by simp [PySem.W.alike] at h
  | .list xs, h => by
    simp only [nod]
    exact nodAll_of_alike xs (by simpa [PySem.W.alike] using h)
  | .tuple xs, h => by
    simp only [nod]
    exact nodAll_of_alike xs (by simpa [PySem.W.alike] using h)
  | .none, _ => by simp only [nod]
  | .bool _, _ => by simp only [nod]
  | .int _, _ => by simp only [nod]
  | .str _, _ => by simp only [nod]
theorem nodAll_of_alike : ∀ xs : List PyData, PySem.W.alikeAll xs xs = true → nodAll xs = true
  | [], _ => by simp only [nodAll]
  | x :: xs, h => by
    have h' : PySem.W.alike x x = true ∧ PySem.W.alikeAll xs xs = true := by simpa [PySem.W.alikeAll] using h
    simp only [nodAll, nod_of_alike x h'.1, nodAll_of_alike xs h'.2, Bool.and_self]
end
theorem nodAll_iff : ∀ {xs : List PyData}, nodAll xs = true ↔ ∀ x ∈ xs, nod x = true
  | [] => by simp [nodAll]
  | x :: xs => by simp [nodAll, nodAll_iff (xs := xs)]
section
variable {F F' H : Hp}
mutual
theorem Rp.mono' (e : Same F F') : ∀ {v : V} {d : PyData}, Rp F v d → Rp F' v d
  | _, _, .non => .non
  | _, _, .bl b => .bl b
  | _, _, .int i => .int i
  | _, _, .str x => .str x
  | _, _, .lst h r => .lst (e _ _ h) (Rps.mono' e r)
  | _, _, .tup h r => .tup (e _ _ h) (Rps.mono' e r)
  | _, _, .dk h r => .dk (e _ _ h) (RpK.mono' e r)
  | _, _, .dt h z r => .dt (e _ _ h) z (RpT.mono' e r)
theorem Rps.mono' (e : Same F F') : ∀ {vs : List V} {ds : List PyData}, Rps F vs ds → Rps F' vs ds
  | _, _, .nil => .nil
  | _, _, .cons h r => .cons (Rp.mono' e h) (Rps.mono' e r)
theorem RpK.mono' (e : Same F F') : ∀ {ws : List (Key × V)} {kvs : List (PyData × PyData)}, RpK F ws kvs → RpK F' ws kvs
  | _, _, .nil => .nil
  | _, _, .cons h r => .cons (Rp.mono' e h) (RpK.mono' e r)
theorem RpT.mono' (e : Same F F') : ∀ {ws : List (List Key × V)} {kvs : List (PyData × PyData)}, RpT F ws kvs → RpT F' ws kvs
  | _, _, .nil => .nil
  | _, _, .cons h r => .cons (Rp.mono' e h) (RpT.mono' e r)
end
theorem Rp.mono (e : Same F F') (d : PyData) (v : V) (h : Rp F v d) : Rp F' v d := Rp.mono' e h
theorem Rps.mono (e : Same F F') (ds : List PyData) (vs : List V) (h : Rps F vs ds) : Rps F' vs ds := Rps.mono' e h
mutual
theorem Rp.dp {K : PySem.W.Frag} (e : Same F H) : ∀ (d : PyData) (v : V), nod d = true → Rp F v d → Dp K H v d
  | .none, _, _, h => by cases h; exact .non
  | .bool b, _, _, h => by cases h; exact .bl b
  | .int i, _, _, h => by cases h; exact .int i
  | .str x, _, _, h => by cases h; exact .str x
  | .list ds, _, n, h => by
    cases h with
    | lst h r => exact .lst (SqL.of (e _ _ h)) (Rps.dp e ds _ (by simpa only [nod] using n) r)
  | .tuple ds, _, n, h => by
    cases h with
    | tup h r => exact .tup (SqT.of (e _ _ h)) (Rps.dp e ds _ (by simpa only [nod] using n) r)
  | .dict _, _, n, h => by simp [nod] at n
theorem Rps.dp {K : PySem.W.Frag} (e : Same F H) : ∀ (ds : List PyData) (vs : List V), nodAll ds = true → Rps F vs ds → DpAll K H vs ds
  | [], _, _, h => by cases h; exact .nil
  | d :: ds, _, n, h => by
    have n' : nod d = true ∧ nodAll ds = true := by simpa [nodAll] using n
    cases h with
    | cons h r => exact .cons (Rp.dp e d _ n'.1 h) (Rps.dp e ds _ n'.2 r)
end
theorem Rps.paired : ∀ {vs : List V} {ds : List PyData}, Rps F vs ds → Paired (Rp F) vs ds
  | _, [], h => by cases h; exact .nil
  | _, _ :: _, h => by
    cases h with
    | cons h r => exact .cons h r.paired
theorem Rps.of : ∀ {vs : List V} {ds : List PyData}, Paired (Rp F) vs ds → Rps F vs ds
  | _, _, .nil => .nil
  | _, _, .cons h r => .cons h (Rps.of r)
theorem Rps.length {vs : List V} {ds : List PyData} (h : Rps F vs ds) : vs.length = ds.length := Paired.length h.paired
end
section
variable {α β : Type} {R : α → β → Prop}
theorem pr_get : ∀ {xs : List α} {ys : List β} {i : Nat} {y : β}, Paired R xs ys → ys[i]? = some y → ∃ x, xs[i]? = some x ∧ R x y
  | _, _, _, _, .nil, e => by simp at e
  | _, _, 0, _, .cons r _, e => by simp at e; subst e; exact ⟨_, rfl, r⟩
  | _, _, i + 1, y, .cons _ t, e => by
    obtain ⟨u, h1, h2⟩ := pr_get (i := i) (y := y) t (by simpa using e)
    exact ⟨u, by simpa using h1, h2⟩
theorem pr_getL : ∀ {xs : List α} {ys : List β} {i : Nat} {x : α}, Paired R xs ys → xs[i]? = some x → ∃ y, ys[i]? = some y ∧ R x y
  | _, _, _, _, .nil, e => by simp at e
  | _, _, 0, _, .cons r _, e => by simp at e; subst e; exact ⟨_, rfl, r⟩
  | _, _, i + 1, y, .cons _ t, e => by
    obtain ⟨u, h1, h2⟩ := pr_getL (i := i) (x := y) t (by simpa using e)
    exact ⟨u, by simpa using h1, h2⟩
theorem pr_set {x : α} {y : β} (r : R x y) : ∀ {xs : List α} {ys : List β} (i : Nat), Paired R xs ys → Paired R (xs.set i x) (ys.set i y)
  | _, _, _, .nil => .nil
  | _, _, 0, .cons _ t => .cons r t
  | _, _, i + 1, .cons q t => .cons q (pr_set r i t)
theorem pr_setL {x : α} (r : ∀ y, R x y) : ∀ {xs : List α} {ys : List β} (i : Nat), Paired R xs ys → Paired R (xs.set i x) ys
  | _, _, _, .nil => .nil
  | _, _, 0, .cons _ t => .cons (r _) t
  | _, _, i + 1, .cons q t => .cons q (pr_setL r i t)
theorem pr_app : ∀ {xs xs' : List α} {ys ys' : List β}, Paired R xs ys → Paired R xs' ys' → Paired R (xs ++ xs') (ys ++ ys')
  | _, _, _, _, .nil, s => s
  | _, _, _, _, .cons r t, s => .cons r (pr_app t s)
theorem pr_split : ∀ {xs xs' : List α} {ys ys' : List β}, xs.length = ys.length → Paired R (xs ++ xs') (ys ++ ys') → Paired R xs ys ∧ Paired R xs' ys'
  | [], _, [], _, _, h => ⟨.nil, h⟩
  | _ :: _, _, _ :: _, _, e, .cons r t => by
    obtain ⟨a, b⟩ := pr_split (by simpa using e) t
    exact ⟨.cons r a, b⟩
theorem pr_map {γ : Type} (f : γ → β) : ∀ {xs : List α} {ys : List γ}, Paired R xs (ys.map f) ↔ Paired (fun a c => R a (f c)) xs ys
  | xs, [] => ⟨fun h => (by cases h; exact .nil), fun h => (by cases h; exact .nil)⟩
  | xs, y :: ys => ⟨fun h => (by cases h with | cons r t => exact .cons r ((pr_map f).mp t)), fun h => (by cases h with | cons r t => exact .cons r ((pr_map f).mpr t))⟩
theorem pr_rev {xs : List α} {ys : List β} (h : Paired R xs ys) : Paired R xs.reverse ys.reverse := by
  induction h with
  | nil => exact .nil
  | cons r t ih => rw [List.reverse_cons, List.reverse_cons]; exact pr_app ih (.cons r .nil)
theorem pr_take : ∀ {xs : List α} {ys : List β} (n : Nat), Paired R xs ys → Paired R (xs.take n) (ys.take n)
  | _, _, 0, _ => .nil
  | _, _, _ + 1, .nil => .nil
  | _, _, n + 1, .cons r t => .cons r (pr_take n t)
theorem pr_drop : ∀ {xs : List α} {ys : List β} (n : Nat), Paired R xs ys → Paired R (xs.drop n) (ys.drop n)
  | _, _, 0, r => r
  | _, _, _ + 1, .nil => .nil
  | _, _, n + 1, .cons _ t => pr_drop n t
theorem pr_erase : ∀ {xs : List α} {ys : List β} (i : Nat), Paired R xs ys → Paired R (xs.eraseIdx i) (ys.eraseIdx i)
  | _, _, _, .nil => .nil
  | _, _, 0, .cons _ t => t
  | _, _, i + 1, .cons q t => .cons q (pr_erase i t)
end

/-! ### slots, owned objects -/
/-- what a slot holds: data; an owned object; the script -/
inductive Sl where
  | dat (d : PyData)
  | ptr (a : Addr)
  | scr (ns : List Int)
/-- an owned object: a list; a dict (t: its keys are tuples); a dict under a lock -/
inductive OD where
  | lst (xs : List Sl)
  | dic (t : Bool) (kvs : List (PyData × Sl))
  | lok (t : Bool) (kvs : List (PyData × Sl))
  | tab
abbrev Ow := List (Addr × OD)
section
variable (K : PySem.W.Frag)
def SvR (F : Hp) : V → Sl → Prop
  | v, .dat d => Rp F v d
  | v, .ptr a => v = .ref a
  | v, .scr ns => ∃ a, v = .ref a ∧ SqL K F a (ns.map V.int)
def SlR (F : Hp) : Option V → Option Sl → Prop
  | _, none => True
  | some v, some s => SvR K F v s
  | none, some _ => False
def DKR (F : Hp) : List (Key × V) → List (PyData × Sl) → Prop := Paired fun p q => q.1 = kD p.1 ∧ SvR K F p.2 q.2
def DTR (F : Hp) : List (List Key × V) → List (PyData × Sl) → Prop := Paired fun p q => q.1 = kTD p.1 ∧ SvR K F p.2 q.2
def ORep (F H : Hp) (a : Addr) : OD → Prop
  | .lst xs => ∃ vs, H a = some (.lst vs) ∧ Paired (SvR K F) vs xs
  | .dic false kvs => ∃ ws, H a = some (.dK ws) ∧ DKR K F ws kvs
  | .dic true kvs => ∃ ws, H a = some (.dT ws) ∧ DTR K F ws kvs
  | .lok false kvs => ∃ o ws, H a = some (.frz o (.dK ws)) ∧ DKR K F ws kvs
  | .lok true kvs => ∃ o ws, H a = some (.frz o (.dT ws)) ∧ DTR K F ws kvs
  | .tab => ∃ ps : Array Value, H a = some (.tbl ps) ∧ TriplesOk ps.toList
end
def SzO : HO → Prop
  | .lst xs => xs.length ≤ sizeLine
  | .tup xs => xs.length ≤ sizeLine
  | .dK ws => ws.length ≤ sizeLine
  | .dT ws => ws.length ≤ sizeLine
  | _ => True
def HSz (H : Hp) : Prop := ∀ a o, H a = some o → SzO o
def isTup : HO → Prop
  | .tup _ => True
  | _ => False
/-- B: what the body leaves as it is; F0: the data at the entry; F: the data now -/
structure Ok (K : PySem.W.Frag) (B F0 F H : Hp) (L : Ow) : Prop where
  up : Same F0 F
  le : Same F H
  amb : Same B H
  new : ∀ a o, F a = some o → F0 a = some o ∨ B a = none ∨ isTup o
  sz : HSz H
  own : ∀ p ∈ L, F p.1 = none ∧ B p.1 = none ∧ ORep K F H p.1 p.2
  nd : (L.map (·.1)).Nodup
def St (K : PySem.W.Frag) (B F0 : Hp) (ρ : List (Option Sl)) (L : Ow) (σ : L2.St) (H : Hp) (vs : List V) (ds : List Sl) : Prop :=
  ∃ F, Ok K B F0 F H L ∧ Paired (SlR K F) σ ρ ∧ Paired (SvR K F) vs ds

section
variable {K : PySem.W.Frag} {F F' F0 B H H' : Hp} {L L' : Ow} {ρ ρ' : List (Option Sl)} {σ σ' : L2.St} {vs ws : List V} {ds es : List Sl} {p : Addr} {o : HO}
theorem SvR.mono (e : Same F F') {v : V} {s : Sl} (h : SvR K F v s) : SvR K F' v s := by
  cases s with
  | dat d => exact Rp.mono e _ _ h
  | ptr a => exact h
  | scr ns =>
    obtain ⟨a, q, h⟩ := h
    exact ⟨a, q, e.seq h⟩
theorem SlR.mono (e : Same F F') {v : Option V} {s : Option Sl} (h : SlR K F v s) : SlR K F' v s := by
  cases s with
  | none => trivial
  | some s =>
    cases v with
    | none => exact h
    | some v => exact SvR.mono e h
theorem svs_mono (e : Same F F') (h : Paired (SvR K F) vs ds) : Paired (SvR K F') vs ds := Paired.mono (fun _ _ => SvR.mono e) h
theorem sls_mono (e : Same F F') (h : Paired (SlR K F) σ ρ) : Paired (SlR K F') σ ρ := Paired.mono (fun _ _ => SlR.mono e) h
theorem DKR.mono (e : Same F F') {a : List (Key × V)} {b : List (PyData × Sl)} (h : DKR K F a b) : DKR K F' a b := Paired.mono (fun _ _ q => ⟨q.1, q.2.mono e⟩) h
theorem DTR.mono (e : Same F F') {a : List (List Key × V)} {b : List (PyData × Sl)} (h : DTR K F a b) : DTR K F' a b := Paired.mono (fun _ _ q => ⟨q.1, q.2.mono e⟩) h
theorem ORep.mono (e : Same F F') {a : Addr} {d : OD} (hH : H' a = H a) (h : ORep K F H a d) : ORep K F' H' a d := by
  cases d with
  | lst xs =>
    obtain ⟨vs, h1, h2⟩ := h
    exact ⟨vs, hH.trans h1, svs_mono e h2⟩
  | dic t kvs =>
    cases t with
    | false => obtain ⟨ws, h1, h2⟩ := h; exact ⟨ws, hH.trans h1, h2.mono e⟩
    | true => obtain ⟨ws, h1, h2⟩ := h; exact ⟨ws, hH.trans h1, h2.mono e⟩
  | lok t kvs =>
    cases t with
    | false => obtain ⟨u, ws, h1, h2⟩ := h; exact ⟨u, ws, hH.trans h1, h2.mono e⟩
    | true => obtain ⟨u, ws, h1, h2⟩ := h; exact ⟨u, ws, hH.trans h1, h2.mono e⟩
  | tab => obtain ⟨ps, h1, h2⟩ := h; exact ⟨ps, hH.trans h1, h2⟩
theorem ORep.there {a : Addr} {d : OD} (h : ORep K F H a d) : ∃ o, H a = some o ∧ ¬ isTup o := by
  cases d with
  | lst xs => obtain ⟨vs, h1, h2⟩ := h; exact ⟨_, h1, fun z => z⟩
  | dic t kvs =>
    cases t with
    | false => obtain ⟨ws, h1, h2⟩ := h; exact ⟨_, h1, fun z => z⟩
    | true => obtain ⟨ws, h1, h2⟩ := h; exact ⟨_, h1, fun z => z⟩
  | lok t kvs =>
    cases t with
    | false => obtain ⟨u, ws, h1, h2⟩ := h; exact ⟨_, h1, fun z => z⟩
    | true => obtain ⟨u, ws, h1, h2⟩ := h; exact ⟨_, h1, fun z => z⟩
  | tab => obtain ⟨ps, h1, h2⟩ := h; exact ⟨_, h1, fun z => z⟩
theorem same_new (h : H p = none) : Same H (upd H p o) := fun a u e => by rw [upd_ne (ne_of_none e h)]; exact e
theorem HSz.upd (h : HSz H) (z : SzO o) : HSz (upd H p o) := fun a u e => by
  by_cases q : a = p
  · subst q; rw [upd_same] at e; cases e; exact z
  · rw [upd_ne q] at e; exact h a u e
theorem Ok.freeF (k : Ok K B F0 F H L) (h : H p = none) : F p = none := k.le.free h
theorem Ok.freeB (k : Ok K B F0 F H L) (h : H p = none) : B p = none := k.amb.free h
theorem Ok.ne (k : Ok K B F0 F H L) (h : H p = none) {q : Addr × OD} (m : q ∈ L) : q.1 ≠ p := fun e => by
  obtain ⟨_, _, r⟩ := k.own q m
  obtain ⟨u, e2, _⟩ := r.there
  rw [e, h] at e2; cases e2
/-- a new piece of data -/
theorem Ok.data (k : Ok K B F0 F H L) (h : H p = none) (z : SzO o) : Ok K B F0 (upd F p o) (upd H p o) L where
  up := k.up.trans (same_new (k.freeF h))
  le := fun a u e => by
    by_cases q : a = p
    · subst q; rw [upd_same] at e; rw [upd_same]; exact e
    · rw [upd_ne q] at e; rw [upd_ne q]; exact k.le a u e
  amb := k.amb.trans (same_new h)
  new := fun a u e => by
    by_cases q : a = p
    · subst q; exact .inr (.inl (k.freeB h))
    · rw [upd_ne q] at e; exact k.new a u e
  sz := k.sz.upd z
  own := fun q m => by
    obtain ⟨a, b, r⟩ := k.own q m
    have n := k.ne h m
    exact ⟨by rw [upd_ne n]; exact a, b, r.mono (same_new (k.freeF h)) (upd_ne n)⟩
  nd := k.nd
/-- a new owned object, at the end -/
theorem Ok.alloc (k : Ok K B F0 F H L) (h : H p = none) (z : SzO o) {d : OD} (r : ORep K F (upd H p o) p d) : Ok K B F0 F (upd H p o) (L ++ [(p, d)]) where
  up := k.up
  le := k.le.trans (same_new h)
  amb := k.amb.trans (same_new h)
  new := k.new
  sz := k.sz.upd z
  own := fun q m => by
    rcases List.mem_append.mp m with m | m
    · obtain ⟨a, b, r⟩ := k.own q m
      exact ⟨a, b, r.mono (Same.refl _) (upd_ne (k.ne h m))⟩
    · have e : q = (p, d) := by simpa using m
      subst e
      exact ⟨k.freeF h, k.freeB h, r⟩
  nd := by
    rw [List.map_append, List.nodup_append]
    refine ⟨k.nd, by simp, fun a ha b hb => ?_⟩
    obtain ⟨q, hq, e⟩ := List.mem_map.mp ha
    have e2 : b = p := by simpa using hb
    rw [← e, e2]
    exact k.ne h hq
/-- an owned object is written -/
theorem Ok.write {d d' : OD} {L1 L2 : Ow} (k : Ok K B F0 F H (L1 ++ (p, d) :: L2)) (z : SzO o) (r : ORep K F (upd H p o) p d') : Ok K B F0 F (upd H p o) (L1 ++ (p, d') :: L2) := by
  have hp : F p = none ∧ B p = none := let q := k.own (p, d) (by simp); ⟨q.1, q.2.1⟩
  have nd := k.nd
  rw [List.map_append, List.map_cons, List.nodup_append, List.nodup_cons] at nd
  have ne : ∀ q ∈ L1 ++ L2, q.1 ≠ p := fun q m e => by
    rcases List.mem_append.mp m with m | m
    · exact nd.2.2 _ (List.mem_map_of_mem m) p (by simp) e
    · have m' : q.1 ∈ L2.map (·.1) := List.mem_map_of_mem m
      rw [e] at m'
      exact nd.2.1.1 m'
  refine ⟨k.up, fun a u e => ?_, fun a u e => ?_, k.new, k.sz.upd z, fun q m => ?_, ?_⟩
  · by_cases q : a = p
    · rw [q, hp.1] at e; cases e
    · rw [upd_ne q]; exact k.le a u e
  · by_cases q : a = p
    · rw [q, hp.2] at e; cases e
    · rw [upd_ne q]; exact k.amb a u e
  · by_cases m2 : q ∈ L1 ++ L2
    · have m3 : q ∈ L1 ++ (p, d) :: L2 := by
        rcases List.mem_append.mp m2 with m | m
        · exact List.mem_append_left _ m
        · exact List.mem_append_right _ (List.mem_cons_of_mem _ m)
      obtain ⟨a, b, r⟩ := k.own q m3
      exact ⟨a, b, r.mono (Same.refl _) (upd_ne (ne q m2))⟩
    · have e : q = (p, d') := by
        rcases List.mem_append.mp m with m | m
        · exact (m2 (List.mem_append_left _ m)).elim
        · rcases List.mem_cons.mp m with m | m
          · exact m
          · exact (m2 (List.mem_append_right _ m)).elim
      subst e
      exact ⟨hp.1, hp.2, r⟩
  · rw [List.map_append, List.map_cons, List.nodup_append, List.nodup_cons]; exact nd
theorem Ok.drop {d : OD} {L1 L2 : Ow} (k : Ok K B F0 F H (L1 ++ (p, d) :: L2)) : Ok K B F0 F H (L1 ++ L2) := by
  have nd := k.nd
  rw [List.map_append, List.map_cons, List.nodup_append, List.nodup_cons] at nd
  refine ⟨k.up, k.le, k.amb, k.new, k.sz, fun q m => k.own q ?_, ?_⟩
  · rcases List.mem_append.mp m with m | m
    · exact List.mem_append_left _ m
    · exact List.mem_append_right _ (List.mem_cons_of_mem _ m)
  · rw [List.map_append, List.nodup_append]
    exact ⟨nd.1, nd.2.1.2, fun a ha b hb => nd.2.2 a ha b (List.mem_cons_of_mem _ hb)⟩
/-- the slots of data -/
theorem dats : ∀ {vs : List V} {ds : List PyData}, Paired (SvR K F) vs (ds.map .dat) → Rps F vs ds
  | _, [], h => by cases h; exact .nil
  | _, _ :: _, h => by
    cases h with
    | cons r t => exact .cons r (dats t)
theorem dats_of : ∀ {vs : List V} {ds : List PyData}, Rps F vs ds → Paired (SvR K F) vs (ds.map .dat)
  | _, [], h => by cases h; exact .nil
  | _, _ :: _, h => by
    cases h with
    | cons r t => exact .cons r (dats_of t)
/-- an owned list becomes data -/
theorem Ok.freeze {ds : List PyData} {L1 L2 : Ow} (k : Ok K B F0 F H (L1 ++ (p, .lst (ds.map .dat)) :: L2)) : ∃ F', Ok K B F0 F' H (L1 ++ L2) ∧ Same F F' ∧ Rp F' (.ref p) (.list ds) := by
  obtain ⟨hp, hb, vs, h1, h2⟩ := k.own (p, .lst (ds.map .dat)) (by simp)
  have s : Same F (upd F p (.lst vs)) := same_new hp
  have k2 := k.drop
  have nd := k.nd
  rw [List.map_append, List.map_cons, List.nodup_append, List.nodup_cons] at nd
  have ne : ∀ q ∈ L1 ++ L2, q.1 ≠ p := fun q m e => by
    rcases List.mem_append.mp m with m | m
    · exact nd.2.2 _ (List.mem_map_of_mem m) p (by simp) e
    · have m' : q.1 ∈ L2.map (·.1) := List.mem_map_of_mem m
      rw [e] at m'
      exact nd.2.1.1 m'
  refine ⟨_, ⟨k2.up.trans s, fun a u e => ?_, k2.amb, fun a u e => ?_, k2.sz, fun q m => ?_, k2.nd⟩, s, .lst upd_same (Rps.mono s _ _ (dats h2))⟩
  · by_cases q : a = p
    · rw [q, upd_same] at e; rw [q, h1]; exact e
    · rw [upd_ne q] at e; exact k2.le a u e
  · by_cases q : a = p
    · rw [q]; exact .inr (.inl hb)
    · rw [upd_ne q] at e; exact k2.new a u e
  · obtain ⟨a, b, r⟩ := k2.own q m
    exact ⟨by rw [upd_ne (ne q m)]; exact a, b, r.mono s rfl⟩

/-! ### the state, step by step -/
theorem St.stack (h : St K B F0 ρ L σ H vs ds) (f : ∀ F, Paired (SvR K F) vs ds → Paired (SvR K F) ws es) : St K B F0 ρ L σ H ws es :=
  let ⟨F, k, a, b⟩ := h; ⟨F, k, a, f F b⟩
theorem St.pop {v : V} {d : Sl} (h : St K B F0 ρ L σ H (v :: vs) (d :: ds)) : St K B F0 ρ L σ H vs ds := h.stack fun _ q => by cases q with | cons _ t => exact t
theorem St.swap {v w : V} {d e : Sl} (h : St K B F0 ρ L σ H (v :: w :: vs) (d :: e :: ds)) : St K B F0 ρ L σ H (w :: v :: vs) (e :: d :: ds) := h.stack fun _ q => by
  cases q with | cons a t => cases t with | cons b t => exact .cons b (.cons a t)
theorem St.push {v : V} {d : Sl} (h : St K B F0 ρ L σ H vs ds) (q : ∀ F, SvR K F v d) : St K B F0 ρ L σ H (v :: vs) (d :: ds) := h.stack fun F r => .cons (q F) r
theorem St.int {i : Int} (h : St K B F0 ρ L σ H vs ds) : St K B F0 ρ L σ H (.int i :: vs) (.dat (.int i) :: ds) := h.push fun _ => .int i
theorem St.bl {i : Bool} (h : St K B F0 ρ L σ H vs ds) : St K B F0 ρ L σ H (.bl i :: vs) (.dat (.bool i) :: ds) := h.push fun _ => .bl i
theorem St.non (h : St K B F0 ρ L σ H vs ds) : St K B F0 ρ L σ H (.non :: vs) (.dat .none :: ds) := h.push fun _ => .non
theorem St.isInt {v : V} {i : Int} (h : St K B F0 ρ L σ H (v :: vs) (.dat (.int i) :: ds)) : v = .int i := by
  obtain ⟨F, k, a, b⟩ := h
  cases b with | cons r t => exact (by cases (show Rp F v (.int i) from r); rfl)
theorem St.isBl {v : V} {i : Bool} (h : St K B F0 ρ L σ H (v :: vs) (.dat (.bool i) :: ds)) : v = .bl i := by
  obtain ⟨F, k, a, b⟩ := h
  cases b with | cons r t => exact (by cases (show Rp F v (.bool i) from r); rfl)
theorem St.isNon {v : V} (h : St K B F0 ρ L σ H (v :: vs) (.dat .none :: ds)) : v = .non := by
  obtain ⟨F, k, a, b⟩ := h
  cases b with | cons r t => exact (by cases (show Rp F v .none from r); rfl)
theorem St.isPtr {v : V} {p : Addr} (h : St K B F0 ρ L σ H (v :: vs) (.ptr p :: ds)) : v = .ref p := by
  obtain ⟨F, k, a, b⟩ := h
  cases b with | cons r t => exact r
theorem St.tup1 {v : V} {xs : List PyData} (h : St K B F0 ρ L σ H (v :: vs) (.dat (.tuple xs) :: ds)) : ∃ a us, v = .ref a ∧ H a = some (.tup us) ∧ us.length = xs.length ∧ us.length ≤ sizeLine ∧ St K B F0 ρ L σ H (us ++ v :: vs) (xs.map .dat ++ .dat (.tuple xs) :: ds) := by
  obtain ⟨F, k, a, b⟩ := id h
  cases b with
  | cons r t =>
    have r' : Rp F v (.tuple xs) := r
    cases r' with
    | tup h1 h2 => exact ⟨_, _, rfl, k.le _ _ h1, h2.length, k.sz _ _ (k.le _ _ h1), F, k, a, pr_app (dats_of h2) (.cons (.tup h1 h2) t)⟩
theorem St.lst1 {v : V} {xs : List PyData} (h : St K B F0 ρ L σ H (v :: vs) (.dat (.list xs) :: ds)) : ∃ a us, v = .ref a ∧ H a = some (.lst us) ∧ us.length = xs.length ∧ us.length ≤ sizeLine ∧ St K B F0 ρ L σ H (us ++ v :: vs) (xs.map .dat ++ .dat (.list xs) :: ds) := by
  obtain ⟨F, k, a, b⟩ := id h
  cases b with
  | cons r t =>
    have r' : Rp F v (.list xs) := r
    cases r' with
    | lst h1 h2 => exact ⟨_, _, rfl, k.le _ _ h1, h2.length, k.sz _ _ (k.le _ _ h1), F, k, a, pr_app (dats_of h2) (.cons (.lst h1 h2) t)⟩
/-- a new tuple of what lies on the stack -/
theorem St.newTup {xs : List PyData} {us : List V} (h : St K B F0 ρ L σ H (us ++ vs) (xs.map .dat ++ ds)) (e : us.length = xs.length) (hp : H p = none) (z : us.length ≤ sizeLine) :
    St K B F0 ρ L σ (upd H p (.tup us)) (.ref p :: vs) (.dat (.tuple xs) :: ds) := by
  obtain ⟨F, k, a, b⟩ := h
  obtain ⟨b1, b2⟩ := pr_split (by rw [List.length_map]; exact e) b
  have s : Same F (upd F p (.tup us)) := same_new (k.freeF hp)
  exact ⟨_, k.data hp z, sls_mono s a, .cons (.tup upd_same (Rps.mono s _ _ (dats b1))) (svs_mono s b2)⟩
/-- a new owned list of what lies on the stack -/
theorem St.newLst {xs : List Sl} {us : List V} (h : St K B F0 ρ L σ H (us ++ vs) (xs ++ ds)) (e : us.length = xs.length) (hp : H p = none) (z : us.length ≤ sizeLine) :
    St K B F0 ρ (L ++ [(p, .lst xs)]) σ (upd H p (.lst us)) (.ref p :: vs) (.ptr p :: ds) := by
  obtain ⟨F, k, a, b⟩ := h
  obtain ⟨b1, b2⟩ := pr_split e b
  exact ⟨F, k.alloc (o := .lst us) hp z ⟨us, upd_same, b1⟩, a, .cons rfl b2⟩
/-- .. becomes data -/
theorem St.frz {xs : List PyData} {L1 L2 : Ow} {v : V} (h : St K B F0 ρ (L1 ++ (p, .lst (xs.map .dat)) :: L2) σ H (v :: vs) (.ptr p :: ds)) : St K B F0 ρ (L1 ++ L2) σ H (v :: vs) (.dat (.list xs) :: ds) := by
  obtain ⟨F, k, a, b⟩ := h
  obtain ⟨F', k', s, r⟩ := k.freeze
  cases b with
  | cons e t =>
    have e' : v = .ref p := e
    subst e'
    exact ⟨F', k', sls_mono s a, .cons r (svs_mono s t)⟩
end
end Mir
namespace Mir
open PySem L2

/-! ### encoders -/
abbrev dI : Int → PyData := .int
abbrev dB : Bool → PyData := .bool
def dN (_ : Unit) : PyData := .none
def dT {α : Type} (d : α → PyData) (xs : List α) : PyData := .tuple (xs.map d)
def dL {α : Type} (d : α → PyData) (xs : List α) : PyData := .list (xs.map d)
def dP {α β : Type} (d : α → PyData) (e : β → PyData) (p : α × β) : PyData := .tuple [d p.1, e p.2]
def dP3 {α β γ : Type} (d : α → PyData) (e : β → PyData) (f : γ → PyData) (p : α × β × γ) : PyData := .tuple [d p.1, e p.2.1, f p.2.2]
def dP4 {α β γ δ : Type} (d : α → PyData) (e : β → PyData) (f : γ → PyData) (g : δ → PyData) (p : α × β × γ × δ) : PyData := .tuple [d p.1, e p.2.1, f p.2.2.1, g p.2.2.2]
def dO {α : Type} (d : α → PyData) : Option α → PyData
  | none => .none
  | some x => d x
/-- data as it is -/
abbrev dD (d : PyData) : PyData := d
abbrev Env := List (Option Sl)

section
variable (X : Cx)
/-- an expression that gives data -/
def EX {α : Type} (d : α → PyData) (e : Expr) (ρ : Env) (L : Ow) (o : Option α) : Prop :=
  ∃ t, PE X e t ∧ ∀ a, o = some a → ∀ B F0 σ H vs ds Q, St X.K B F0 ρ L σ H vs ds → (∀ v H', St X.K B F0 ρ L σ H' (v :: vs) (.dat (d a) :: ds) → Q v H') → t σ H Q
/-- .. a new list -/
def EN {α : Type} (d : α → PyData) (e : Expr) (ρ : Env) (L : Ow) (o : Option (List α)) : Prop :=
  ∃ t, PE X e t ∧ ∀ a, o = some a → ∀ B F0 σ H vs ds Q, St X.K B F0 ρ L σ H vs ds → (∀ p H', St X.K B F0 ρ (L ++ [(p, .lst ((a.map d).map .dat))]) σ H' (.ref p :: vs) (.ptr p :: ds) → Q (.ref p) H') → t σ H Q
/-- .. a new owned object -/
def EO {α : Type} (d : α → OD) (e : Expr) (ρ : Env) (L : Ow) (o : Option α) : Prop :=
  ∃ t, PE X e t ∧ ∀ a, o = some a → ∀ B F0 σ H vs ds Q, St X.K B F0 ρ L σ H vs ds → (∀ p H', St X.K B F0 ρ (L ++ [(p, d a)]) σ H' (.ref p :: vs) (.ptr p :: ds) → Q (.ref p) H') → t σ H Q
/-- .. any slot's value -/
def ES (e : Expr) (ρ : Env) (L : Ow) (o : Option Sl) : Prop :=
  ∃ t, PE X e t ∧ ∀ a, o = some a → ∀ B F0 σ H vs ds Q, St X.K B F0 ρ L σ H vs ds → (∀ v H', St X.K B F0 ρ L σ H' (v :: vs) (a :: ds) → Q v H') → t σ H Q
/-- an expression that may turn what is owned: the world w, its objects Lf w -/
def EM {α W : Type} (d : α → PyData) (e : Expr) (ρ : Env) (Lf : W → Ow) (w : W) (m : Option (α × W)) : Prop :=
  ∃ t, PE X e t ∧ ∀ a w', m = some (a, w') → ∀ B F0 σ H vs ds Q, St X.K B F0 ρ (Lf w) σ H vs ds → (∀ v H', St X.K B F0 ρ (Lf w') σ H' (v :: vs) (.dat (d a) :: ds) → Q v H') → t σ H Q
/-- a test -/
def TX (e : Expr) (ρ : Env) (L : Ow) (o : Option Bool) : Prop :=
  ∃ t, PT X e t ∧ ∀ a, o = some a → ∀ B F0 σ H vs ds Q, St X.K B F0 ρ L σ H vs ds → (∀ H', St X.K B F0 ρ L σ H' vs ds → Q a H') → t σ H Q
def WX (e : Expr) (ρ : Env) (L : Ow) (o : Option Bool) : Prop :=
  ∃ t, PW X e t ∧ ∀ a, o = some a → ∀ B F0 σ H vs ds Q, St X.K B F0 ρ L σ H vs ds → (∀ H', St X.K B F0 ρ L σ H' vs ds → Q a H') → t σ H Q
def TM {W : Type} (e : Expr) (ρ : Env) (Lf : W → Ow) (w : W) (m : Option (Bool × W)) : Prop :=
  ∃ t, PT X e t ∧ ∀ a w', m = some (a, w') → ∀ B F0 σ H vs ds Q, St X.K B F0 ρ (Lf w) σ H vs ds → (∀ H', St X.K B F0 ρ (Lf w') σ H' vs ds → Q a H') → t σ H Q
/-- arguments -/
def AX {α : Type} (enc : α → List Sl) (es : List Expr) (ρ : Env) (L : Ow) (o : Option α) : Prop :=
  ∃ t, PA X es t ∧ ∀ a, o = some a → ∀ B F0 σ H vs ds Q, St X.K B F0 ρ L σ H vs ds → (∀ us H', us.length = (enc a).length → St X.K B F0 ρ L σ H' (us ++ vs) (enc a ++ ds) → Q us H') → t σ H Q
def AM {α W : Type} (enc : α → List Sl) (es : List Expr) (ρ : Env) (Lf : W → Ow) (w : W) (m : Option (α × W)) : Prop :=
  ∃ t, PA X es t ∧ ∀ a w', m = some (a, w') → ∀ B F0 σ H vs ds Q, St X.K B F0 ρ (Lf w) σ H vs ds → (∀ us H', us.length = (enc a).length → St X.K B F0 ρ (Lf w') σ H' (us ++ vs) (enc a ++ ds) → Q us H') → t σ H Q
end
/-- a slot that reads as a list or tuple of data -/
inductive SeqOf (L : Ow) : Sl → List PyData → Prop
  | lst (ds : List PyData) : SeqOf L (.dat (.list ds)) ds
  | tup (ds : List PyData) : SeqOf L (.dat (.tuple ds)) ds
  | own {p : Addr} {ds : List PyData} : (p, OD.lst (ds.map .dat)) ∈ L → SeqOf L (.ptr p) ds
  | scr (ns : List Int) : SeqOf L (.scr ns) (ns.map .int)
/-- an expression that gives a list or tuple to be read -/
def QX (X : Cx) {α : Type} (d : α → PyData) (e : Expr) (ρ : Env) (L : Ow) (o : Option (List α)) : Prop :=
  ∃ t, PE X e t ∧ ∀ a, o = some a → ∀ B F0 σ H vs ds Q, St X.K B F0 ρ L σ H vs ds → (∀ v s H', SeqOf L s (a.map d) → St X.K B F0 ρ L σ H' (v :: vs) (s :: ds) → Q v H') → t σ H Q

section
variable {K : PySem.W.Frag} {B F0 H : Hp} {L : Ow} {ρ : Env} {σ : L2.St} {vs : List V} {ds : List Sl}
theorem St.own1 {p : Addr} {xs : List Sl} (m : (p, OD.lst xs) ∈ L) (h : St K B F0 ρ L σ H vs ds) : ∃ us, H p = some (.lst us) ∧ us.length = xs.length ∧ us.length ≤ sizeLine ∧ St K B F0 ρ L σ H (us ++ vs) (xs ++ ds) := by
  obtain ⟨F, k, a, b⟩ := h
  obtain ⟨_, _, us, h1, h2⟩ := k.own _ m
  exact ⟨us, h1, Paired.length h2, k.sz _ _ h1, F, k, a, pr_app h2 b⟩
theorem ints_sv {F : Hp} (ns : List Int) : Paired (SvR K F) (ns.map V.int) ((ns.map PyData.int).map .dat) := by
  induction ns with
  | nil => exact .nil
  | cons n r ih => exact .cons (.int n) ih
/-- what a sequence's slot reads as, on the heap: a list, or a tuple that is data -/
theorem St.seq2 {v : V} {s : Sl} {xs : List PyData} (q : SeqOf L s xs) (h : St K B F0 ρ L σ H (v :: vs) (s :: ds)) :
    (∃ a us, v = .ref a ∧ SqL K H a us ∧ us.length = xs.length ∧ St K B F0 ρ L σ H (us ++ v :: vs) (xs.map .dat ++ s :: ds)) ∨
    (∃ a us, v = .ref a ∧ SqT K H a us ∧ us.length = xs.length ∧ St K B F0 ρ L σ H (us ++ v :: vs) (xs.map .dat ++ s :: ds) ∧ s = .dat (.tuple xs)) := by
  cases q with
  | lst =>
    obtain ⟨a, us, e, h1, h2, _, h3⟩ := h.lst1
    exact .inl ⟨a, us, e, SqL.of h1, h2, h3⟩
  | tup =>
    obtain ⟨a, us, e, h1, h2, _, h3⟩ := h.tup1
    exact .inr ⟨a, us, e, SqT.of h1, h2, h3, rfl⟩
  | own m =>
    have e := h.isPtr
    obtain ⟨us, h1, h2, _, h3⟩ := h.own1 m
    exact .inl ⟨_, us, e, SqL.of h1, by rw [h2, List.length_map], h3⟩
  | scr ns =>
    obtain ⟨F, k, a, b⟩ := h
    cases b with
    | cons r t =>
      obtain ⟨p, e, hq⟩ := r
      exact .inl ⟨p, ns.map V.int, e, k.le.seq hq, by simp, F, k, a, pr_app (ints_sv ns) (.cons ⟨p, e, hq⟩ t)⟩
theorem St.seq {v : V} {s : Sl} {xs : List PyData} (q : SeqOf L s xs) (h : St K B F0 ρ L σ H (v :: vs) (s :: ds)) :
    ∃ a us, v = .ref a ∧ (SqL K H a us ∨ SqT K H a us) ∧ us.length = xs.length ∧ St K B F0 ρ L σ H (us ++ v :: vs) (xs.map .dat ++ s :: ds) := by
  rcases h.seq2 q with ⟨a, us, e, h1, h2, h3⟩ | ⟨a, us, e, h1, h2, h3, _⟩
  · exact ⟨a, us, e, .inl h1, h2, h3⟩
  · exact ⟨a, us, e, .inr h1, h2, h3⟩
theorem ints_of {F : Hp} : ∀ {us : List V} {ns : List Int}, Paired (SvR K F) us ((ns.map PyData.int).map .dat) → us = ns.map V.int
  | _, [], h => by cases h; rfl
  | _, n :: ns, h => by
    cases h with
    | cons r t =>
      have r' : Rp F _ (.int n) := r
      cases r'
      rw [List.map_cons, ints_of t]
theorem St.ints {us : List V} {ns : List Int} (h : St K B F0 ρ L σ H (us ++ vs) ((ns.map PyData.int).map .dat ++ ds)) (e : us.length = ns.length) : us = ns.map V.int := by
  obtain ⟨F, k, a, b⟩ := h
  obtain ⟨b1, _⟩ := pr_split (by simpa using e) b
  exact ints_of b1
theorem St.flats {us : List V} {xs : List PyData} (h : St K B F0 ρ L σ H (us ++ vs) (xs.map .dat ++ ds)) (e : us.length = xs.length) : St K B F0 ρ L σ H vs ds := h.stack fun F q => (pr_split (by simpa using e) q).2
end

section
variable {X : Cx} {α β γ δ W : Type} {e a b c : Expr} {ρ : Env} {L : Ow} {pos : Pos}
theorem EX.conv {d : α → PyData} {o o' : Option α} (h : EX X d e ρ L o) (q : o = o') : EX X d e ρ L o' := q ▸ h
theorem EN.conv {d : α → PyData} {o o' : Option (List α)} (h : EN X d e ρ L o) (q : o = o') : EN X d e ρ L o' := q ▸ h
theorem TX.conv {o o' : Option Bool} (h : TX X e ρ L o) (q : o = o') : TX X e ρ L o' := q ▸ h
theorem EM.conv {d : α → PyData} {Lf : W → Ow} {w : W} {o o' : Option (α × W)} (h : EM X d e ρ Lf w o) (q : o = o') : EM X d e ρ Lf w o' := q ▸ h
/-- the same value by another encoder -/
theorem EX.re {d : α → PyData} {d' : β → PyData} {o : Option α} {f : α → β} (h : EX X d e ρ L o) (q : ∀ a, d' (f a) = d a) : EX X d' e ρ L (o.map f) := by
  obtain ⟨t, p, h⟩ := h
  refine ⟨t, p, fun b hb B F0 σ H vs ds Q s k => ?_⟩
  obtain ⟨a, ha, rfl⟩ := Option.map_eq_some_iff.mp hb
  exact h a ha B F0 σ H vs ds Q s fun v H' s' => k v H' (by rw [q]; exact s')
theorem x_re {d : α → PyData} {d' : β → PyData} {a : α} {b : β} (h : EX X d e ρ L (some a)) (q : d' b = d a) : EX X d' e ρ L (some b) := by
  obtain ⟨t, p, h⟩ := h
  exact ⟨t, p, fun c hc B F0 σ H vs ds Q s k => h a rfl B F0 σ H vs ds Q s fun v H' s' => k v H' (by cases hc; rw [q]; exact s')⟩
/-- a value that may be None, where it is not -/
theorem x_some {d : α → PyData} {o : Option (Option α)} (h : EX X (dO d) e ρ L o) : EX X d e ρ L (o.bind id) := by
  obtain ⟨t, p, h⟩ := h
  refine ⟨t, p, fun a ha B F0 σ H vs ds Q s k => ?_⟩
  obtain ⟨x, hx, e⟩ := Option.bind_eq_some_iff.mp ha
  have e' : x = some a := e
  subst e'
  exact h _ hx B F0 σ H vs ds Q s k
theorem x_opt {d : α → PyData} {o : Option α} (h : EX X d e ρ L o) : EX X (dO d) e ρ L (o.map some) := h.re fun _ => rfl
/-- a pure expression among those that turn the world -/
theorem EX.m {d : α → PyData} {o : Option α} {Lf : W → Ow} {w : W} (h : EX X d e ρ (Lf w) o) : EM X d e ρ Lf w (o.map fun a => (a, w)) := by
  obtain ⟨t, p, h⟩ := h
  refine ⟨t, p, fun a w' hm B F0 σ H vs ds Q s k => ?_⟩
  obtain ⟨x, hx, e⟩ := Option.map_eq_some_iff.mp hm
  injection e with e1 e2
  subst e1 e2
  exact h _ hx B F0 σ H vs ds Q s k
theorem TX.m {o : Option Bool} {Lf : W → Ow} {w : W} (h : TX X e ρ (Lf w) o) : TM X e ρ Lf w (o.map fun a => (a, w)) := by
  obtain ⟨t, p, h⟩ := h
  refine ⟨t, p, fun a w' hm B F0 σ H vs ds Q s k => ?_⟩
  obtain ⟨x, hx, e⟩ := Option.map_eq_some_iff.mp hm
  injection e with e1 e2
  subst e1 e2
  exact h _ hx B F0 σ H vs ds Q s k

/-! ### names and constants -/
theorem pr_at {K : PySem.W.Frag} {F : Hp} {σ : L2.St} {s : Sl} {i : Nat} (h : Paired (SlR K F) σ ρ) (e : ρ[i]? = some (some s)) : ∃ v, σ[i]? = some (some v) ∧ SvR K F v s := by
  obtain ⟨o, h1, h2⟩ := pr_get h e
  cases o with
  | none => exact h2.elim
  | some v => exact ⟨v, h1, h2⟩
theorem s_var (i : Nat) {x : Str} {s : Sl} (hρ : ρ[i]? = some (some s)) (hN : X.N[i]? = some x := by rfl) (hv : Vis X.env.scope x := by first | exact Or.inl rfl | exact Or.inr (Or.inl rfl) | exact Or.inr (Or.inr rfl)) (hd : (x == ("__debug__" : Str)) = false := by decide)
    (hcd : (x == ("__classdict__" : Str)) = false := by decide) : ES X (.Name x pos) ρ L (some s) := by
  refine ⟨_, pe_var hN hv hd hcd, fun a ha B F0 σ H vs ds Q st k => ?_⟩
  cases ha
  obtain ⟨F, ok, sl, sv⟩ := st
  obtain ⟨v, h1, h2⟩ := pr_at sl hρ
  exact ⟨v, h1, k v H ⟨F, ok, sl, .cons h2 sv⟩⟩
theorem ES.x {d : α → PyData} {a : α} (h : ES X e ρ L (some (.dat (d a)))) : EX X d e ρ L (some a) := by
  obtain ⟨t, p, h⟩ := h
  exact ⟨t, p, fun b hb B F0 σ H vs ds Q s k => by cases hb; exact h _ rfl B F0 σ H vs ds Q s k⟩
theorem x_var (i : Nat) {x : Str} {d : α → PyData} {a : α} (hρ : ρ[i]? = some (some (.dat (d a))) := by rfl) (hN : X.N[i]? = some x := by rfl) (hv : Vis X.env.scope x := by first | exact Or.inl rfl | exact Or.inr (Or.inl rfl) | exact Or.inr (Or.inr rfl)) (hd : (x == ("__debug__" : Str)) = false := by decide)
    (hcd : (x == ("__classdict__" : Str)) = false := by decide) : EX X d (.Name x pos) ρ L (some a) := (s_var i hρ hN hv hd hcd).x
theorem x_int {i : Int} {j : Nat} : EX X dI (.Constant (.int i) j pos) ρ L (some i) := ⟨_, pe_int, fun a ha B F0 σ H vs ds Q s k => by cases ha; exact k _ _ s.int⟩
theorem x_bool {i : Bool} {j : Nat} : EX X dB (.Constant (.bool i) j pos) ρ L (some i) := ⟨_, pe_bl, fun a ha B F0 σ H vs ds Q s k => by cases ha; exact k _ _ s.bl⟩
theorem x_none {j : Nat} {d : α → PyData} : EX X (dO d) (.Constant .none j pos) ρ L (some none) := ⟨_, pe_non, fun a ha B F0 σ H vs ds Q s k => by cases ha; exact k _ _ s.non⟩
theorem x_unit {j : Nat} : EX X dN (.Constant .none j pos) ρ L (some ()) := ⟨_, pe_non, fun a ha B F0 σ H vs ds Q s k => by cases ha; exact k _ _ s.non⟩

/-! ### two-place operations on ints -/
/-- an operation by values: on two pieces of data it gives a third -/
def Op2 (K : PySem.W.Frag) (r : R2) (d : α → PyData) (e : β → PyData) (f : γ → PyData) (g : α → β → Option γ) : Prop :=
  ∀ x y z, g x y = some z → ∀ B F0 ρ L σ H vs ds v u Q, St K B F0 ρ L σ H (u :: v :: vs) (.dat (e y) :: .dat (d x) :: ds) → (∀ w H', St K B F0 ρ L σ H' (w :: vs) (.dat (f z) :: ds) → Q w H') → r v u H Q
variable {d : α → PyData} {d' : β → PyData} {f : γ → PyData} {oa : Option α} {ob : Option β}
theorem x_op {op : Operator} {r : R2} {g : α → β → Option γ} (ho : OpR X (binaryOp op) r) (hg : Op2 X.K r d d' f g) (ha : EX X d a ρ L oa) (hb : EX X d' b ρ L ob) : EX X f (.BinOp a op b pos) ρ L (oa.bind fun x => ob.bind fun y => g x y) := by
  obtain ⟨ta, pa, ha⟩ := ha
  obtain ⟨tb, pb, hb⟩ := hb
  refine ⟨_, pe_op ho pa pb, fun z hz B F0 σ H vs ds Q s k => ?_⟩
  obtain ⟨x, hx, hz⟩ := Option.bind_eq_some_iff.mp hz
  obtain ⟨y, hy, hz⟩ := Option.bind_eq_some_iff.mp hz
  exact ha x hx B F0 σ H vs ds _ s fun v H1 s1 => hb y hy B F0 σ H1 _ _ _ s1 fun u H2 s2 => hg x y z hz B F0 ρ L σ H2 vs ds v u Q s2 k
theorem m_op {op : Operator} {r : R2} {g : α → β → Option γ} {Lf : W → Ow} {w : W} {ma : Option (α × W)} {mb : α → W → Option (β × W)} (ho : OpR X (binaryOp op) r) (hg : Op2 X.K r d d' f g) (ha : EM X d a ρ Lf w ma) (hb : ∀ x w1, EM X d' b ρ Lf w1 (mb x w1)) :
    EM X f (.BinOp a op b pos) ρ Lf w (ma.bind fun x => (mb x.1 x.2).bind fun y => (g x.1 y.1).map fun z => (z, y.2)) := by
  obtain ⟨ta, pa, ha⟩ := ha
  have hb' : ∃ tb, PE X b tb ∧ ∀ x w1, ∀ a w', mb x w1 = some (a, w') → ∀ B F0 σ H vs ds Q, St X.K B F0 ρ (Lf w1) σ H vs ds → (∀ v H', St X.K B F0 ρ (Lf w') σ H' (v :: vs) (.dat (d' a) :: ds) → Q v H') → tb σ H Q := by
    refine ⟨fun σ H Q => ∃ x w1 a w' B F0 vs ds, mb x w1 = some (a, w') ∧ St X.K B F0 ρ (Lf w1) σ H vs ds ∧ ∀ v H', St X.K B F0 ρ (Lf w') σ H' (v :: vs) (.dat (d' a) :: ds) → Q v H', ⟨fun pins s σ H Q I h => ?_⟩, fun x w1 a w' e B F0 σ H vs ds Q s k => ⟨x, w1, a, w', B, F0, vs, ds, e, s, k⟩⟩
    obtain ⟨x, w1, a, w', B, F0, vs, ds, e, st, k⟩ := h
    obtain ⟨tb, pb, hb⟩ := hb x w1
    exact pb.run pins s σ H Q I (hb a w' e B F0 σ H vs ds Q st k)
  obtain ⟨tb, pb, hb⟩ := hb'
  refine ⟨_, pe_op ho pa pb, fun z w3 hz B F0 σ H vs ds Q s k => ?_⟩
  obtain ⟨⟨x, w1⟩, hx, hz⟩ := Option.bind_eq_some_iff.mp hz
  obtain ⟨⟨y, w2⟩, hy, hz⟩ := Option.bind_eq_some_iff.mp hz
  obtain ⟨z', hz', e⟩ := Option.map_eq_some_iff.mp hz
  injection e with e1 e2
  subst e1 e2
  exact ha x w1 hx B F0 σ H vs ds _ s fun v H1 s1 => hb x w1 y w2 hy B F0 σ H1 _ _ _ s1 fun u H2 s2 => hg x y _ hz' B F0 ρ _ σ H2 vs ds v u Q s2 k
end
end Mir
namespace Mir
open PySem L2

/-! ### partial operations -/
def smallI (i : Int) : Bool := decide (-18446744073709551616 < i) && decide (i < 18446744073709551616)
noncomputable def mulO (i j : Int) : Option Int := @ite _ ((smallI i || smallI j) = true) (Classical.propDecidable _) (some (i * j)) none
noncomputable def fdivO (i j : Int) : Option Int := @ite _ (j ≠ 0 ∧ j.natAbs < 1073741824) (Classical.propDecidable _) (some (i.fdiv j)) none
noncomputable def fmodO (i j : Int) : Option Int := @ite _ (j ≠ 0) (Classical.propDecidable _) (some (i.fmod j)) none
def shiftOk (i j : Int) : Bool := decide (0 ≤ j) && decide (j ≤ 1000000) && decide (i.natAbs < 18446744073709551616)
noncomputable def shlO (i j : Int) : Option Int := @ite _ (shiftOk i j = true) (Classical.propDecidable _) (some (i * 2 ^ j.toNat)) none
noncomputable def powO (i j : Int) : Option Int := @ite _ (shiftOk i j = true) (Classical.propDecidable _) (some (i ^ j.toNat)) none
noncomputable def shrO (i j : Int) : Option Int := @ite _ (0 ≤ j) (Classical.propDecidable _) (some (i / 2 ^ j.toNat)) none
def bAnd (i j : Int) : Int := Builtin.bitAnd i j
def bOr (i j : Int) : Int := Builtin.bitOr i j
def bXor (i j : Int) : Int := Builtin.bitXor i j
/-- a sequence's item -/
def atO {α : Type} (xs : List α) (i : Int) : Option α := atI xs i
noncomputable def szO {α : Type} (n : Nat) (x : α) : Option α := @ite _ (n ≤ sizeLine) (Classical.propDecidable _) (some x) none
noncomputable def catO {α : Type} (xs ys : List α) : Option (List α) := szO (xs.length + ys.length) (xs ++ ys)
noncomputable def repO {α : Type} (xs : List α) (k : Int) : Option (List α) :=
  @ite _ (-9223372036854775808 ≤ k ∧ k < 9223372036854775808 ∧ xs.length * k.toNat ≤ sizeLine) (Classical.propDecidable _) (some (List.replicate k.toNat xs).flatten) none
def rng (a b : Int) : List Int := (List.range (b - a).toNat).map fun i => a + (i : Nat)
def bigI (a : Int) : Bool := decide (-4611686018427387904 ≤ a) && decide (a < 4611686018427387904)
/-- range(a, b) walked -/
noncomputable def rngO (a b : Int) : Option (List Int) := @ite _ ((bigI a && bigI b) = true) (Classical.propDecidable _) (some (rng a b)) none
/-- list(range(a, b)) -/
noncomputable def rngL (a b : Int) : Option (List Int) := @ite _ ((bigI a = true ∧ bigI b = true) ∧ (b - a).toNat ≤ 16777216) (Classical.propDecidable _) (some (rng a b)) none

/-! ### data that is equal just if its encoding is -/
structure Lw {α : Type} [DecidableEq α] (n : Nat) (d : α → PyData) : Prop where
  eqv : ∀ a b, PyData.eqv (d a) (d b) = decide (a = b)
  lay : ∀ a, (d a).canLay0 = true
  dep : ∀ a, (d a).depth ≤ n
section
variable {α β γ δ : Type} [DecidableEq α] [DecidableEq β] [DecidableEq γ] [DecidableEq δ] {n m : Nat} {d : α → PyData} {e : β → PyData} {f : γ → PyData} {g : δ → PyData}
theorem lw_int : Lw 0 dI := ⟨fun a b => by
  rw [PyData.eqv]
  by_cases h : a = b
  · subst h; simp
  · simp [h], fun _ => by simp [PyData.canLay0], fun _ => by simp [PyData.depth]⟩
theorem lw_bool : Lw 0 dB := ⟨fun a b => by rw [PyData.eqv]; by_cases h : a = b <;> simp [h], fun _ => by simp [PyData.canLay0], fun _ => by simp [PyData.depth]⟩
theorem eqvAll_map (h : ∀ a b, PyData.eqv (d a) (d b) = decide (a = b)) : ∀ xs ys : List α, PyData.eqvAll (xs.map d) (ys.map d) = decide (xs = ys)
  | [], [] => by simp [PyData.eqvAll]
  | [], _ :: _ => by simp [PyData.eqvAll]
  | _ :: _, [] => by simp [PyData.eqvAll]
  | x :: xs, y :: ys => by
    rw [List.map_cons, List.map_cons, PyData.eqvAll, h, eqvAll_map h xs ys]
    by_cases q : x = y <;> by_cases r : xs = ys <;> simp [q, r]
theorem layAll_map (h : ∀ a, (d a).canLay0 = true) : ∀ xs : List α, PyData.canLayAll0 (xs.map d) = true
  | [] => by simp [PyData.canLayAll0]
  | x :: xs => by rw [List.map_cons, PyData.canLayAll0, h, layAll_map h xs]; rfl
theorem depAll_map (h : ∀ a, (d a).depth ≤ n) : ∀ xs : List α, PyData.depthAll (xs.map d) ≤ n
  | [] => by simp [PyData.depthAll]
  | x :: xs => by
    rw [List.map_cons, PyData.depthAll]
    exact Nat.max_le.mpr ⟨h x, depAll_map h xs⟩
theorem lw_tup (h : Lw n d) : Lw (n + 1) (dT d) := ⟨fun a b => by
  unfold dT
  rw [PyData.eqv]; exact eqvAll_map h.eqv a b, fun a => by unfold dT; rw [PyData.canLay0]; exact layAll_map h.lay a, fun a => by unfold dT; rw [PyData.depth]; exact Nat.add_le_add_right (depAll_map h.dep a) 1⟩
theorem lw_lst (h : Lw n d) : Lw (n + 1) (dL d) := ⟨fun a b => by
  unfold dL
  rw [PyData.eqv]; exact eqvAll_map h.eqv a b, fun a => by unfold dL; rw [PyData.canLay0]; exact layAll_map h.lay a, fun a => by unfold dL; rw [PyData.depth]; exact Nat.add_le_add_right (depAll_map h.dep a) 1⟩
theorem Lw.le (h : Lw n d) (q : n ≤ m) : Lw m d := ⟨h.eqv, h.lay, fun a => Nat.le_trans (h.dep a) q⟩
theorem lw_pair (h : Lw n d) (k : Lw n e) : Lw (n + 1) (dP d e) := ⟨fun a b => by
  obtain ⟨a1, a2⟩ := a
  obtain ⟨b1, b2⟩ := b
  simp only [dP, PyData.eqv, PyData.eqvAll, h.eqv, k.eqv, Prod.mk.injEq]
  by_cases q : a1 = b1 <;> by_cases r : a2 = b2 <;> simp [q, r], fun a => by simp [dP, PyData.canLay0, PyData.canLayAll0, h.lay, k.lay], fun a => by
  simp only [dP, PyData.depth, PyData.depthAll]
  have := h.dep a.1
  have := k.dep a.2
  omega⟩
theorem lw_3 (h : Lw n d) (k : Lw n e) (l : Lw n f) : Lw (n + 1) (dP3 d e f) := ⟨fun a b => by
  obtain ⟨a1, a2, a3⟩ := a
  obtain ⟨b1, b2, b3⟩ := b
  simp only [dP3, PyData.eqv, PyData.eqvAll, h.eqv, k.eqv, l.eqv, Prod.mk.injEq]
  by_cases q : a1 = b1 <;> by_cases r : a2 = b2 <;> by_cases s : a3 = b3 <;> simp [q, r, s], fun a => by simp [dP3, PyData.canLay0, PyData.canLayAll0, h.lay, k.lay, l.lay], fun a => by
  simp only [dP3, PyData.depth, PyData.depthAll]
  have := h.dep a.1
  have := k.dep a.2.1
  have := l.dep a.2.2
  omega⟩
theorem lw_4 (h : Lw n d) (k : Lw n e) (l : Lw n f) (o : Lw n g) : Lw (n + 1) (dP4 d e f g) := ⟨fun a b => by
  obtain ⟨a1, a2, a3, a4⟩ := a
  obtain ⟨b1, b2, b3, b4⟩ := b
  simp only [dP4, PyData.eqv, PyData.eqvAll, h.eqv, k.eqv, l.eqv, o.eqv, Prod.mk.injEq]
  by_cases q : a1 = b1 <;> by_cases r : a2 = b2 <;> by_cases s : a3 = b3 <;> by_cases t : a4 = b4 <;> simp [q, r, s, t], fun a => by simp [dP4, PyData.canLay0, PyData.canLayAll0, h.lay, k.lay, l.lay, o.lay], fun a => by
  simp only [dP4, PyData.depth, PyData.depthAll]
  have := h.dep a.1
  have := k.dep a.2.1
  have := l.dep a.2.2.1
  have := o.dep a.2.2.2
  omega⟩
theorem lw_opt (h : Lw n d) (k : ∀ a, PyData.eqv .none (d a) = false ∧ PyData.eqv (d a) .none = false) : Lw n (dO d) := ⟨fun a b => by
  cases a <;> cases b <;> simp [dO, PyData.eqv, h.eqv, k], fun a => by cases a <;> simp [dO, PyData.canLay0, h.lay], fun a => by cases a <;> simp [dO, PyData.depth, h.dep]⟩
theorem Lw.shaped (h : Lw n d) (q : n ≤ 64 := by decide) (a : α) : SeqAt.shaped (d a) = true := by
  unfold SeqAt.shaped
  rw [h.lay, Bool.true_and]
  exact decide_eq_true (Nat.le_trans (h.dep a) q)
end

/-! ### operations by values -/
section
variable {K : PySem.W.Frag} {α β γ : Type}
theorem op2_II {g : Int → Int → V} {h : Int → Int → γ} {f : γ → PyData} (q : ∀ i j F, Rp F (g i j) (f (h i j))) : Op2 K (rI0 g) dI dI f (fun i j => some (h i j)) := by
  intro i j z hz B F0 ρ L σ H vs ds v u Q s k
  cases hz
  have e1 := s.isInt
  have e2 := s.pop.isInt
  exact ⟨i, j, e2, e1, k _ _ (s.pop.pop.push fun F => q i j F)⟩
theorem op2_I {C : Int → Int → Prop} {g : Int → Int → V} {h : Int → Int → Option Int} (q : ∀ i j z, h i j = some z → C i j ∧ g i j = .int z) : Op2 K (rI C g) dI dI dI h := by
  intro i j z hz B F0 ρ L σ H vs ds v u Q s k
  have e1 := s.isInt
  have e2 := s.pop.isInt
  obtain ⟨c, e⟩ := q i j z hz
  refine ⟨i, j, e2, e1, c, ?_⟩
  rw [e]
  exact k _ _ s.pop.pop.int
theorem o_add : Op2 K (rI0 fun i j => .int (i + j)) dI dI dI (fun i j => some (i + j)) := op2_II fun i j F => .int _
theorem o_sub : Op2 K (rI0 fun i j => .int (i - j)) dI dI dI (fun i j => some (i - j)) := op2_II fun i j F => .int _
theorem smallI_iff {i : Int} : smallI i = true ↔ -(2 ^ 64) < i ∧ i < 2 ^ 64 := by
  unfold smallI
  rw [Bool.and_eq_true, decide_eq_true_eq, decide_eq_true_eq]
  exact Iff.rfl
theorem o_mul : Op2 K (rI CMul fun i j => .int (i * j)) dI dI dI mulO := op2_I fun i j z h => by
  unfold mulO at h
  split at h
  · rename_i c
    rw [Bool.or_eq_true, smallI_iff, smallI_iff] at c
    cases h
    exact ⟨c, rfl⟩
  · cases h
theorem o_fdiv : Op2 K (rI CDivN fun i j => .int (i.fdiv j)) dI dI dI fdivO := op2_I fun i j z h => by
  unfold fdivO at h
  split at h
  · rename_i c
    cases h
    exact ⟨c, rfl⟩
  · cases h
theorem o_fmod : Op2 K (rI (fun _ j => j ≠ 0) fun i j => .int (i.fmod j)) dI dI dI fmodO := op2_I fun i j z h => by
  unfold fmodO at h
  split at h
  · rename_i c
    cases h
    exact ⟨c, rfl⟩
  · cases h
theorem shiftOk_iff {i j : Int} (h : shiftOk i j = true) : CPow i j := by
  unfold shiftOk at h
  simp only [Bool.and_eq_true, decide_eq_true_eq] at h
  exact ⟨h.1.1, h.1.2, h.2⟩
theorem o_shl : Op2 K (rI CPow fun i j => .int (i * 2 ^ j.toNat)) dI dI dI shlO := op2_I fun i j z h => by
  unfold shlO at h
  split at h
  · rename_i c
    cases h
    exact ⟨shiftOk_iff c, rfl⟩
  · cases h
theorem o_pow : Op2 K (rI CPow fun i j => .int (i ^ j.toNat)) dI dI dI powO := op2_I fun i j z h => by
  unfold powO at h
  split at h
  · rename_i c
    cases h
    exact ⟨shiftOk_iff c, rfl⟩
  · cases h
theorem o_shr : Op2 K (rI (fun _ j => 0 ≤ j) fun i j => .int (i / 2 ^ j.toNat)) dI dI dI shrO := op2_I fun i j z h => by
  unfold shrO at h
  split at h
  · rename_i c
    cases h
    exact ⟨c, rfl⟩
  · cases h
theorem o_and : Op2 K (rI0 fun i j => .int (Builtin.bitAnd i j)) dI dI dI (fun i j => some (bAnd i j)) := op2_II fun i j F => .int _
theorem o_or : Op2 K (rI0 fun i j => .int (Builtin.bitOr i j)) dI dI dI (fun i j => some (bOr i j)) := op2_II fun i j F => .int _
theorem o_xor : Op2 K (rI0 fun i j => .int (Builtin.bitXor i j)) dI dI dI (fun i j => some (bXor i j)) := op2_II fun i j F => .int _
theorem o_lt : Op2 K (rI0 fun i j => .bl (decide (i < j))) dI dI dB (fun i j => some (decide (i < j))) := op2_II fun i j F => .bl _
theorem o_le : Op2 K (rI0 fun i j => .bl (decide (i ≤ j))) dI dI dB (fun i j => some (decide (i ≤ j))) := op2_II fun i j F => .bl _
theorem o_gt : Op2 K (rI0 fun i j => .bl (decide (j < i))) dI dI dB (fun i j => some (decide (j < i))) := op2_II fun i j F => .bl _
theorem o_ge : Op2 K (rI0 fun i j => .bl (decide (j ≤ i))) dI dI dB (fun i j => some (decide (j ≤ i))) := op2_II fun i j F => .bl _
/-- == of data, at any depth -/
theorem o_eqD [DecidableEq α] {n : Nat} {d : α → PyData} (h : Lw n d) (hn : n ≤ 64 := by decide) : Op2 K (rEqD K) d d dB (fun a b => some (decide (a = b))) := by
  intro a b z hz B F0 ρ L σ H vs ds v u Q s k
  cases hz
  obtain ⟨F, ok, sl, sv⟩ := id s
  cases sv with
  | cons r1 t =>
    cases t with
    | cons r2 t =>
      refine ⟨d a, d b, Rp.dp ok.le _ _ (nod_of_lay _ (h.lay a)) r2, Rp.dp ok.le _ _ (nod_of_lay _ (h.lay b)) r1, h.shaped hn a, h.shaped hn b, ?_⟩
      rw [h.eqv]
      exact k _ _ s.pop.pop.bl
theorem o_neD [DecidableEq α] {n : Nat} {d : α → PyData} (h : Lw n d) (hn : n ≤ 64 := by decide) : Op2 K (rNeD K) d d dB (fun a b => some (!decide (a = b))) := by
  intro a b z hz B F0 ρ L σ H vs ds v u Q s k
  cases hz
  obtain ⟨F, ok, sl, sv⟩ := id s
  cases sv with
  | cons r1 t =>
    cases t with
    | cons r2 t =>
      refine ⟨d a, d b, Rp.dp ok.le _ _ (nod_of_lay _ (h.lay a)) r2, Rp.dp ok.le _ _ (nod_of_lay _ (h.lay b)) r1, h.shaped hn a, h.shaped hn b, ?_⟩
      rw [h.eqv]
      exact k _ _ s.pop.pop.bl
theorem o_eqI : Op2 K rEq dI dI dB (fun a b => some (decide (a = b))) := by
  intro a b z hz B F0 ρ L σ H vs ds v u Q s k
  cases hz
  have e1 := s.isInt
  have e2 := s.pop.isInt
  subst e1 e2
  refine ⟨rfl, ?_⟩
  have : decide (V.int a = V.int b) = decide (a = b) := by by_cases q : a = b <;> simp [q]
  rw [this]
  exact k _ _ s.pop.pop.bl
theorem o_neI : Op2 K rNe dI dI dB (fun a b => some (!decide (a = b))) := by
  intro a b z hz B F0 ρ L σ H vs ds v u Q s k
  cases hz
  have e1 := s.isInt
  have e2 := s.pop.isInt
  subst e1 e2
  refine ⟨rfl, ?_⟩
  have : decide (V.int a = V.int b) = decide (a = b) := by by_cases q : a = b <;> simp [q]
  rw [this]
  exact k _ _ s.pop.pop.bl
theorem o_eqB : Op2 K rEq dB dB dB (fun a b => some (decide (a = b))) := by
  intro a b z hz B F0 ρ L σ H vs ds v u Q s k
  cases hz
  have e1 := s.isBl
  have e2 := s.pop.isBl
  subst e1 e2
  refine ⟨rfl, ?_⟩
  have : decide (V.bl a = V.bl b) = decide (a = b) := by by_cases q : a = b <;> simp [q]
  rw [this]
  exact k _ _ s.pop.pop.bl
theorem o_neB : Op2 K rNe dB dB dB (fun a b => some (!decide (a = b))) := by
  intro a b z hz B F0 ρ L σ H vs ds v u Q s k
  cases hz
  have e1 := s.isBl
  have e2 := s.pop.isBl
  subst e1 e2
  refine ⟨rfl, ?_⟩
  have : decide (V.bl a = V.bl b) = decide (a = b) := by by_cases q : a = b <;> simp [q]
  rw [this]
  exact k _ _ s.pop.pop.bl
theorem o_isB : Op2 K rIsB dB dB dB (fun a b => some (decide (a = b))) := by
  intro a b z hz B F0 ρ L σ H vs ds v u Q s k
  cases hz
  exact ⟨a, b, s.pop.isBl, s.isBl, k _ _ s.pop.pop.bl⟩
theorem o_isNotB : Op2 K rNotB dB dB dB (fun a b => some (!decide (a = b))) := by
  intro a b z hz B F0 ρ L σ H vs ds v u Q s k
  cases hz
  exact ⟨a, b, s.pop.isBl, s.isBl, k _ _ s.pop.pop.bl⟩
/-- is None -/
theorem non_iff {F : Hp} {v : V} {d : α → PyData} (h : ∀ a, d a ≠ .none) {o : Option α} (r : Rp F v (dO d o)) : decide (v = .non) = o.isNone := by
  cases o with
  | none =>
    have r' : Rp F v .none := r
    cases r'
    rfl
  | some x =>
    have r' : Rp F v (d x) := r
    have n : v ≠ .non := by
      rintro rfl
      generalize hd : d x = y at r'
      cases r'
      exact h x hd
    simp [n]
theorem o_isN {d : α → PyData} (h : ∀ a, d a ≠ .none) : Op2 K (fun x y H Q => y = .non ∧ Q (.bl (decide (x = .non))) H) (dO d) dN dB (fun a _ => some a.isNone) := by
  intro a b z hz B F0 ρ L σ H vs ds v u Q s k
  cases hz
  refine ⟨s.isNon, ?_⟩
  obtain ⟨F, ok, sl, sv⟩ := id s.pop
  cases sv with
  | cons r t =>
    rw [non_iff h r]
    exact k _ _ s.pop.pop.bl
theorem o_notN {d : α → PyData} (h : ∀ a, d a ≠ .none) : Op2 K (fun x y H Q => y = .non ∧ Q (.bl (!decide (x = .non))) H) (dO d) dN dB (fun a _ => some a.isSome) := by
  intro a b z hz B F0 ρ L σ H vs ds v u Q s k
  cases hz
  refine ⟨s.isNon, ?_⟩
  obtain ⟨F, ok, sl, sv⟩ := id s.pop
  cases sv with
  | cons r t =>
    rw [non_iff h r]
    have : (!a.isNone) = a.isSome := by cases a <;> rfl
    rw [this]
    exact k _ _ s.pop.pop.bl
end

section
variable {X : Cx} {α β γ δ W : Type} {e a b c : Expr} {ρ : Env} {L : Ow} {pos : Pos} {d : α → PyData} {d' : β → PyData} {f : γ → PyData} {oa : Option α} {ob : Option β}
/-! ### comparisons, tests -/
theorem x_cmp {op : CmpOp} {r : R2} {g : α → β → Option γ} (ho : OpR X (compareOp op) r) (hg : Op2 X.K r d d' f g) (ha : EX X d a ρ L oa) (hb : EX X d' b ρ L ob) (hm : behindInMarks op b = false := by exact nomark _) :
    EX X f (.Compare a [op] [b] pos) ρ L (oa.bind fun x => ob.bind fun y => g x y) := by
  obtain ⟨ta, pa, ha⟩ := ha
  obtain ⟨tb, pb, hb⟩ := hb
  refine ⟨_, pe_cmpR ho pa pb hm, fun z hz B F0 σ H vs ds Q s k => ?_⟩
  obtain ⟨x, hx, hz⟩ := Option.bind_eq_some_iff.mp hz
  obtain ⟨y, hy, hz⟩ := Option.bind_eq_some_iff.mp hz
  exact ha x hx B F0 σ H vs ds _ s fun v H1 s1 => hb y hy B F0 σ H1 _ _ _ s1 fun u H2 s2 => hg x y z hz B F0 ρ L σ H2 vs ds v u Q s2 k
/-- a test by its value: the forms of isTrue that are plain -/
theorem t_val {o : Option Bool} (h : EX X dB e ρ L o) (he : ∀ whole, isTrue e X.env whole = (do let v ← whole; standAt e.pos; holding [v] (truthy v)) := by intro _; rfl) : TX X e ρ L o := by
  obtain ⟨t, p, h⟩ := h
  exact ⟨_, pt_val p he, fun b hb B F0 σ H vs ds Q s k => h b hb B F0 σ H vs ds _ s fun v H' s' => ⟨b, s'.isBl, k H' s'.pop⟩⟩
theorem t_cmp {op : CmpOp} {r : R2} {g : α → β → Option Bool} (ho : OpR X (compareOp op) r) (hg : Op2 X.K r d d' dB g) (ha : EX X d a ρ L oa) (hb : EX X d' b ρ L ob) (hm : behindInMarks op b = false := by exact nomark _) :
    TX X (.Compare a [op] [b] pos) ρ L (oa.bind fun x => ob.bind fun y => g x y) := by
  obtain ⟨ta, pa, ha⟩ := ha
  obtain ⟨tb, pb, hb⟩ := hb
  refine ⟨_, pt_cmpR ho pa pb hm, fun z hz B F0 σ H vs ds Q s k => ?_⟩
  obtain ⟨x, hx, hz⟩ := Option.bind_eq_some_iff.mp hz
  obtain ⟨y, hy, hz⟩ := Option.bind_eq_some_iff.mp hz
  exact ha x hx B F0 σ H vs ds _ s fun v H1 s1 => hb y hy B F0 σ H1 _ _ _ s1 fun u H2 s2 => hg x y z hz B F0 ρ L σ H2 vs ds v u _ s2 fun w H3 s3 => ⟨z, s3.isBl, k H3 s3.pop⟩
/-- a < b < c -/
theorem x_chain {op op' : CmpOp} {r r' : R2} {g : α → β → Option Bool} {g' : β → γ → Option Bool} {oc : Option γ} (ho : OpR X (compareOp op) r) (ho' : OpR X (compareOp op') r') (hg : Op2 X.K r d d' dB g) (hg' : Op2 X.K r' d' f dB g')
    (ha : EX X d a ρ L oa) (hb : EX X d' b ρ L ob) (hc : EX X f c ρ L oc) (p : OpR X (compareOp op) r → OpR X (compareOp op') r' → ∀ {ta tb tc}, PE X a ta → PE X b tb → PE X c tc → PE X (.Compare a [op, op'] [b, c] pos) (tChain r r' ta tb tc) := by intro ho ho' _ _ _ h1 h2 h3; exact pe_chain ho ho' h1 h2 h3) :
    EX X dB (.Compare a [op, op'] [b, c] pos) ρ L (oa.bind fun x => ob.bind fun y => (g x y).bind fun k => if k then oc.bind fun z => g' y z else some false) := by
  obtain ⟨ta, pa, ha⟩ := ha
  obtain ⟨tb, pb, hb⟩ := hb
  obtain ⟨tc, pc, hc⟩ := hc
  refine ⟨_, p ho ho' pa pb pc, fun z hz B F0 σ H vs ds Q s k => ?_⟩
  obtain ⟨x, hx, hz⟩ := Option.bind_eq_some_iff.mp hz
  obtain ⟨y, hy, hz⟩ := Option.bind_eq_some_iff.mp hz
  obtain ⟨q, hq, hz⟩ := Option.bind_eq_some_iff.mp hz
  refine ha x hx B F0 σ H vs ds _ s fun v H1 s1 => hb y hy B F0 σ H1 _ _ _ s1 fun u H2 s2 => ?_
  have s2' : St X.K B F0 ρ L σ H2 (u :: v :: u :: vs) (.dat (d' y) :: .dat (d x) :: .dat (d' y) :: ds) := s2.stack fun F r => by
    cases r with | cons r1 t => cases t with | cons r2 t => exact .cons r1 (.cons r2 (.cons r1 t))
  refine hg x y q hq B F0 ρ L σ H2 _ _ v u _ s2' fun w H3 s3 => ⟨q, s3.isBl, ?_⟩
  cases q with
  | true =>
    obtain ⟨z2, hz2, hz⟩ := Option.bind_eq_some_iff.mp hz
    exact iteT (hc z2 hz2 B F0 σ H3 _ _ _ s3.pop fun w2 H4 s4 => hg' y z2 z hz B F0 ρ L σ H4 vs ds u w2 Q s4 k)
  | false =>
    have e : false = z := by simpa using hz
    subst e
    exact iteF (k _ _ (s3.pop.pop.bl))
theorem t_not {o : Option Bool} (h : TX X e ρ L o) : TX X (.UnaryOp .Not e pos) ρ L (o.map (!·)) := by
  obtain ⟨t, p, h⟩ := h
  refine ⟨_, pt_not p, fun b hb B F0 σ H vs ds Q s k => ?_⟩
  obtain ⟨x, hx, rfl⟩ := Option.map_eq_some_iff.mp hb
  exact h x hx B F0 σ H vs ds _ s k
theorem w_and1 {o : Option Bool} (h : TX X e ρ L o) : WX X (.BoolOp .And [e] pos) ρ L o := by
  obtain ⟨t, p, h⟩ := h
  exact ⟨_, pw_and1 p, h⟩
theorem w_or1 {o : Option Bool} (h : TX X e ρ L o) : WX X (.BoolOp .Or [e] pos) ρ L o := by
  obtain ⟨t, p, h⟩ := h
  exact ⟨_, pw_or1 p, h⟩
theorem w_and {o o' : Option Bool} {es : List Expr} (h : TX X a ρ L o) (h' : WX X (.BoolOp .And (b :: es) pos) ρ L o') : WX X (.BoolOp .And (a :: b :: es) pos) ρ L (o.bind fun x => if x then o' else some false) := by
  obtain ⟨t, p, h⟩ := h
  obtain ⟨t', p', h'⟩ := h'
  refine ⟨_, pw_and p p', fun z hz B F0 σ H vs ds Q s k => ?_⟩
  obtain ⟨x, hx, hz⟩ := Option.bind_eq_some_iff.mp hz
  refine h x hx B F0 σ H vs ds _ s fun H1 s1 => ?_
  cases x with
  | true => exact iteT (h' z (by simpa using hz) B F0 σ H1 vs ds Q s1 k)
  | false =>
    have e : false = z := by simpa using hz
    subst e
    exact iteF (k _ s1)
theorem w_or {o o' : Option Bool} {es : List Expr} (h : TX X a ρ L o) (h' : WX X (.BoolOp .Or (b :: es) pos) ρ L o') : WX X (.BoolOp .Or (a :: b :: es) pos) ρ L (o.bind fun x => if x then some true else o') := by
  obtain ⟨t, p, h⟩ := h
  obtain ⟨t', p', h'⟩ := h'
  refine ⟨_, pw_or p p', fun z hz B F0 σ H vs ds Q s k => ?_⟩
  obtain ⟨x, hx, hz⟩ := Option.bind_eq_some_iff.mp hz
  refine h x hx B F0 σ H vs ds _ s fun H1 s1 => ?_
  cases x with
  | false => exact iteF (h' z (by simpa using hz) B F0 σ H1 vs ds Q s1 k)
  | true =>
    have e : true = z := by simpa using hz
    subst e
    exact iteT (k _ s1)
theorem WX.t {o : Option Bool} (h : WX X e ρ L o) : TX X e ρ L o := by
  obtain ⟨t, p, h⟩ := h
  exact ⟨_, p.pt, h⟩
/-- and, or, not as values -/
theorem x_one {op} {o : Option α} (h : EX X d e ρ L o) : EX X d (.BoolOp op [e] pos) ρ L o := by
  obtain ⟨t, p, h⟩ := h
  exact ⟨_, pe_one p, h⟩
theorem x_and {o o' : Option Bool} {es : List Expr} (h : EX X dB a ρ L o) (h' : EX X dB (.BoolOp .And (b :: es) pos) ρ L o') : EX X dB (.BoolOp .And (a :: b :: es) pos) ρ L (o.bind fun x => if x then o' else some false) := by
  obtain ⟨t, p, h⟩ := h
  obtain ⟨t', p', h'⟩ := h'
  refine ⟨_, pe_and p p', fun z hz B F0 σ H vs ds Q s k => ?_⟩
  obtain ⟨x, hx, hz⟩ := Option.bind_eq_some_iff.mp hz
  refine h x hx B F0 σ H vs ds _ s fun v H1 s1 => ⟨x, s1.isBl, ?_⟩
  cases x with
  | true => exact iteT (h' z (by simpa using hz) B F0 σ H1 vs ds Q s1.pop k)
  | false =>
    have e : false = z := by simpa using hz
    subst e
    exact iteF (k _ _ s1.pop.bl)
theorem x_or {o o' : Option Bool} {es : List Expr} (h : EX X dB a ρ L o) (h' : EX X dB (.BoolOp .Or (b :: es) pos) ρ L o') : EX X dB (.BoolOp .Or (a :: b :: es) pos) ρ L (o.bind fun x => if x then some true else o') := by
  obtain ⟨t, p, h⟩ := h
  obtain ⟨t', p', h'⟩ := h'
  refine ⟨_, pe_or p p', fun z hz B F0 σ H vs ds Q s k => ?_⟩
  obtain ⟨x, hx, hz⟩ := Option.bind_eq_some_iff.mp hz
  refine h x hx B F0 σ H vs ds _ s fun v H1 s1 => ⟨x, s1.isBl, ?_⟩
  cases x with
  | false => exact iteF (h' z (by simpa using hz) B F0 σ H1 vs ds Q s1.pop k)
  | true =>
    have e : true = z := by simpa using hz
    subst e
    exact iteT (k _ _ s1.pop.bl)
theorem x_not {o : Option Bool} (h : EX X dB e ρ L o) : EX X dB (.UnaryOp .Not e pos) ρ L (o.map (!·)) := by
  obtain ⟨t, p, h⟩ := h
  refine ⟨_, pe_not p, fun b hb B F0 σ H vs ds Q s k => ?_⟩
  obtain ⟨x, hx, rfl⟩ := Option.map_eq_some_iff.mp hb
  exact h x hx B F0 σ H vs ds _ s fun v H1 s1 => ⟨x, s1.isBl, k _ _ s1.pop.bl⟩
theorem x_neg {o : Option Int} (h : EX X dI e ρ L o) : EX X dI (.UnaryOp .USub e pos) ρ L (o.map (-·)) := by
  obtain ⟨t, p, h⟩ := h
  refine ⟨_, pe_un un_neg p, fun b hb B F0 σ H vs ds Q s k => ?_⟩
  obtain ⟨x, hx, rfl⟩ := Option.map_eq_some_iff.mp hb
  exact h x hx B F0 σ H vs ds _ s fun v H1 s1 => ⟨x, s1.isInt, k _ _ s1.pop.int⟩
theorem x_if {oc : Option Bool} {o o' : Option α} (hc : TX X c ρ L oc) (ha : EX X d a ρ L o) (hb : EX X d b ρ L o') : EX X d (.IfExp c a b pos) ρ L (oc.bind fun x => if x then o else o') := by
  obtain ⟨t, p, h⟩ := hc
  obtain ⟨ta, pa, ha⟩ := ha
  obtain ⟨tb, pb, hb⟩ := hb
  refine ⟨_, pe_ifExp p pa pb, fun z hz B F0 σ H vs ds Q s k => ?_⟩
  obtain ⟨x, hx, hz⟩ := Option.bind_eq_some_iff.mp hz
  refine h x hx B F0 σ H vs ds _ s fun H1 s1 => ?_
  cases x with
  | true => exact iteT (ha z (by simpa using hz) B F0 σ H1 vs ds Q s1 k)
  | false => exact iteF (hb z (by simpa using hz) B F0 σ H1 vs ds Q s1 k)
end
end Mir
namespace Mir
open PySem L2

/-! ### arguments, displays -/
section
variable {K : PySem.W.Frag} {B F0 H : Hp} {L : Ow} {ρ : Env} {σ : L2.St} {vs us : List V} {ds es : List Sl}
/-- the pushed ones in their order -/
theorem St.args {x : V} {s : Sl} (h : St K B F0 ρ L σ H (us ++ x :: vs) (es ++ s :: ds)) (e : us.length = es.length) : St K B F0 ρ L σ H ((x :: us) ++ vs) ((s :: es) ++ ds) := h.stack fun F q => by
  obtain ⟨a, b⟩ := pr_split e q
  cases b with
  | cons r t => exact .cons r (pr_app a t)
end
section
variable {X : Cx} {α β γ δ W : Type} {e a b c : Expr} {es : List Expr} {ρ : Env} {L : Ow} {pos : Pos} {d : α → PyData} {d' : β → PyData} {f : γ → PyData} {g : δ → PyData} {oa : Option α} {ob : Option β} {oc : Option γ} {od : Option δ}
theorem a_nil : AX X (fun _ : Unit => []) [] ρ L (some ()) := ⟨_, pa_nil, fun z hz B F0 σ H vs ds Q s k => by cases hz; exact k [] H rfl s⟩
theorem a_cons {enc : β → List Sl} (ha : EX X d e ρ L oa) (hr : AX X enc es ρ L ob) (hs : starEach (e :: es) X.env = (false, eval e X.env) :: starEach es X.env := by rfl) :
    AX X (fun p : α × β => Sl.dat (d p.1) :: enc p.2) (e :: es) ρ L (oa.bind fun x => ob.bind fun y => some (x, y)) := by
  obtain ⟨t, p, h⟩ := ha
  obtain ⟨t', p', h'⟩ := hr
  refine ⟨_, pa_cons p p' hs, fun z hz B F0 σ H vs ds Q s k => ?_⟩
  obtain ⟨x, hx, hz⟩ := Option.bind_eq_some_iff.mp hz
  obtain ⟨y, hy, hz⟩ := Option.bind_eq_some_iff.mp hz
  cases hz
  refine h x hx B F0 σ H vs ds _ s fun v H1 s1 => h' y hy B F0 σ H1 _ _ _ s1 fun us H2 e2 s2 => ?_
  exact k (v :: us) H2 (by simp [e2]) (s2.args e2)
/-- an argument of any slot -/
theorem a_sl {enc : β → List Sl} {sl : Sl} (ha : ES X e ρ L (some sl)) (hr : AX X enc es ρ L ob) (hs : starEach (e :: es) X.env = (false, eval e X.env) :: starEach es X.env := by rfl) :
    AX X (fun p : β => sl :: enc p) (e :: es) ρ L ob := by
  obtain ⟨t, p, h⟩ := ha
  obtain ⟨t', p', h'⟩ := hr
  refine ⟨_, pa_cons p p' hs, fun z hz B F0 σ H vs ds Q s k => ?_⟩
  refine h sl rfl B F0 σ H vs ds _ s fun v H1 s1 => h' z hz B F0 σ H1 _ _ _ s1 fun us H2 e2 s2 => ?_
  exact k (v :: us) H2 (by simp [e2]) (s2.args e2)
/-- arguments of one kind -/
def encH (d : α → PyData) (xs : List α) : List Sl := (xs.map d).map .dat
theorem ah_nil : AX X (encH d) [] ρ L (some []) := ⟨_, pa_nil, fun z hz B F0 σ H vs ds Q s k => by cases hz; exact k [] H rfl s⟩
theorem ah_cons {os : Option (List α)} (ha : EX X d e ρ L oa) (hr : AX X (encH d) es ρ L os) (hs : starEach (e :: es) X.env = (false, eval e X.env) :: starEach es X.env := by rfl) :
    AX X (encH d) (e :: es) ρ L (oa.bind fun x => os.bind fun y => some (x :: y)) := by
  obtain ⟨t, p, h⟩ := ha
  obtain ⟨t', p', h'⟩ := hr
  refine ⟨_, pa_cons p p' hs, fun z hz B F0 σ H vs ds Q s k => ?_⟩
  obtain ⟨x, hx, hz⟩ := Option.bind_eq_some_iff.mp hz
  obtain ⟨y, hy, hz⟩ := Option.bind_eq_some_iff.mp hz
  cases hz
  refine h x hx B F0 σ H vs ds _ s fun v H1 s1 => h' y hy B F0 σ H1 _ _ _ s1 fun us H2 e2 s2 => ?_
  exact k (v :: us) H2 (by rw [List.length_cons, e2]; rfl) (s2.args e2)
/-- (a, b, ..) in general -/
theorem x_tupG {ob : Option β} {k} {enc : β → List Sl} (h : AX X enc es ρ L ob) (g : β → α) (xs : β → List PyData) (q1 : ∀ b, enc b = (xs b).map .dat) (q2 : ∀ b, d (g b) = .tuple (xs b)) (q3 : ∀ b, (xs b).length ≤ sizeLine) :
    EX X d (.Tuple es k pos) ρ L (ob.map g) := by
  obtain ⟨t, p, h⟩ := h
  refine ⟨_, pe_tup p, fun z hz B F0 σ H vs ds Q s k => ?_⟩
  obtain ⟨y, hy, rfl⟩ := Option.map_eq_some_iff.mp hz
  refine h y hy B F0 σ H vs ds _ s fun us H1 e1 s1 => ?_
  rw [q1] at e1 s1
  have e2 : us.length = (xs y).length := by rw [e1, List.length_map]
  have z : us.length ≤ sizeLine := by rw [e2]; exact q3 y
  exact ⟨z, fun p hp => k _ _ (by rw [q2]; exact s1.newTup e2 hp z)⟩
theorem sz_of {n : Nat} (h : n ≤ 1000) : n ≤ sizeLine := Nat.le_trans h (by decide)
theorem x_pair {k} (ha : EX X d a ρ L oa) (hb : EX X d' b ρ L ob) (h1 : starEach [a, b] X.env = (false, eval a X.env) :: starEach [b] X.env := by rfl) (h2 : starEach [b] X.env = (false, eval b X.env) :: starEach [] X.env := by rfl) :
    EX X (dP d d') (.Tuple [a, b] k pos) ρ L (oa.bind fun x => ob.bind fun y => some (x, y)) := by
  refine (x_tupG (d := dP d d') (a_cons ha (a_cons hb a_nil h2) h1) (fun p => (p.1, p.2.1)) (fun p => [d p.1, d' p.2.1]) (fun _ => rfl) (fun _ => rfl) (fun _ => sz_of (by decide : 2 ≤ 1000))).conv ?_
  cases oa <;> cases ob <;> rfl
theorem x_tup3 {k} (ha : EX X d a ρ L oa) (hb : EX X d' b ρ L ob) (hc : EX X f c ρ L oc) (h1 : starEach [a, b, c] X.env = (false, eval a X.env) :: starEach [b, c] X.env := by rfl) (h2 : starEach [b, c] X.env = (false, eval b X.env) :: starEach [c] X.env := by rfl)
    (h3 : starEach [c] X.env = (false, eval c X.env) :: starEach [] X.env := by rfl) :
    EX X (dP3 d d' f) (.Tuple [a, b, c] k pos) ρ L (oa.bind fun x => ob.bind fun y => oc.bind fun z => some (x, y, z)) := by
  refine (x_tupG (d := dP3 d d' f) (a_cons ha (a_cons hb (a_cons hc a_nil h3) h2) h1) (fun p => (p.1, p.2.1, p.2.2.1)) (fun p => [d p.1, d' p.2.1, f p.2.2.1]) (fun _ => rfl) (fun _ => rfl) (fun _ => sz_of (by decide : 3 ≤ 1000))).conv ?_
  cases oa <;> cases ob <;> cases oc <;> rfl
theorem x_tup4 {k} {e4 : Expr} (ha : EX X d a ρ L oa) (hb : EX X d' b ρ L ob) (hc : EX X f c ρ L oc) (hd : EX X g e4 ρ L od) (h1 : starEach [a, b, c, e4] X.env = (false, eval a X.env) :: starEach [b, c, e4] X.env := by rfl) (h2 : starEach [b, c, e4] X.env = (false, eval b X.env) :: starEach [c, e4] X.env := by rfl)
    (h3 : starEach [c, e4] X.env = (false, eval c X.env) :: starEach [e4] X.env := by rfl) (h4 : starEach [e4] X.env = (false, eval e4 X.env) :: starEach [] X.env := by rfl) :
    EX X (dP4 d d' f g) (.Tuple [a, b, c, e4] k pos) ρ L (oa.bind fun x => ob.bind fun y => oc.bind fun z => od.bind fun w => some (x, y, z, w)) := by
  refine (x_tupG (d := dP4 d d' f g) (a_cons ha (a_cons hb (a_cons hc (a_cons hd a_nil h4) h3) h2) h1) (fun p => (p.1, p.2.1, p.2.2.1, p.2.2.2.1)) (fun p => [d p.1, d' p.2.1, f p.2.2.1, g p.2.2.2.1]) (fun _ => rfl) (fun _ => rfl) (fun _ => sz_of (by decide : 4 ≤ 1000))).conv ?_
  cases oa <;> cases ob <;> cases oc <;> cases od <;> rfl
/-- a display of one kind: a tuple, a list; its length below a thousand -/
theorem x_tupH {k} {os : Option (List α)} (h : AX X (encH d) es ρ L os) (hz : ∀ xs, os = some xs → xs.length ≤ 1000) : EX X (dT d) (.Tuple es k pos) ρ L os := by
  obtain ⟨t, p, h⟩ := h
  refine ⟨_, pe_tup p, fun xs hx B F0 σ H vs ds Q s k => ?_⟩
  refine h xs hx B F0 σ H vs ds _ s fun us H1 e1 s1 => ?_
  have e2 : us.length = (xs.map d).length := by rw [e1]; exact List.length_map ..
  have z : us.length ≤ sizeLine := by rw [e2, List.length_map]; exact sz_of (hz xs hx)
  exact ⟨z, fun p hp => k _ _ (s1.newTup e2 hp z)⟩
theorem n_lst {os : Option (List α)} (h : AX X (encH d) es ρ L os) (hz : ∀ xs, os = some xs → xs.length ≤ 1000) : EN X d (.List es pos) ρ L os := by
  obtain ⟨t, p, h⟩ := h
  refine ⟨_, pe_lst p, fun xs hx B F0 σ H vs ds Q s k => ?_⟩
  refine h xs hx B F0 σ H vs ds _ s fun us H1 e1 s1 => ?_
  have z : us.length ≤ sizeLine := by rw [e1]; show ((xs.map d).map Sl.dat).length ≤ sizeLine; rw [List.length_map, List.length_map]; exact sz_of (hz xs hx)
  exact ⟨z, fun p hp => k _ _ (s1.newLst e1 hp z)⟩
/-- a new list as data -/
theorem EN.x {o : Option (List α)} (h : EN X d e ρ L o) : EX X (dL d) e ρ L o := by
  obtain ⟨t, p, h⟩ := h
  refine ⟨t, p, fun xs hx B F0 σ H vs ds Q s k => h xs hx B F0 σ H vs ds _ s fun p H1 s1 => k _ _ ?_⟩
  have s2 := St.frz (L2 := []) s1
  rw [List.append_nil] at s2
  exact s2
theorem EN.o {o : Option (List α)} (h : EN X d e ρ L o) : EO X (fun xs => OD.lst ((xs.map d).map .dat)) e ρ L o := h

/-! ### sequences -/
theorem EX.ql {o : Option (List α)} (h : EX X (dL d) e ρ L o) : QX X d e ρ L o := by
  obtain ⟨t, p, h⟩ := h
  exact ⟨t, p, fun xs hx B F0 σ H vs ds Q s k => h xs hx B F0 σ H vs ds _ s fun v H1 s1 => k v _ H1 (.lst _) s1⟩
theorem EX.qt {o : Option (List α)} (h : EX X (dT d) e ρ L o) : QX X d e ρ L o := by
  obtain ⟨t, p, h⟩ := h
  exact ⟨t, p, fun xs hx B F0 σ H vs ds Q s k => h xs hx B F0 σ H vs ds _ s fun v H1 s1 => k v _ H1 (.tup _) s1⟩
theorem EN.q {o : Option (List α)} (h : EN X d e ρ L o) : QX X d e ρ L o := h.x.ql
theorem ES.q {p : Addr} {xs : List α} (h : ES X e ρ L (some (.ptr p))) (m : (p, OD.lst ((xs.map d).map .dat)) ∈ L) : QX X d e ρ L (some xs) := by
  obtain ⟨t, p, h⟩ := h
  exact ⟨t, p, fun ys hy B F0 σ H vs ds Q s k => by cases hy; exact h _ rfl B F0 σ H vs ds _ s fun v H1 s1 => k v _ H1 (.own m) s1⟩
theorem ES.qs {ns : List Int} (h : ES X e ρ L (some (.scr ns))) : QX X dI e ρ L (some ns) := by
  obtain ⟨t, p, h⟩ := h
  exact ⟨t, p, fun ys hy B F0 σ H vs ds Q s k => by cases hy; exact h _ rfl B F0 σ H vs ds _ s fun v H1 s1 => k v _ H1 (.scr _) s1⟩
theorem QX.conv {o o' : Option (List α)} (h : QX X d e ρ L o) (q : o = o') : QX X d e ρ L o' := q ▸ h
/-- len(xs) -/
theorem x_len {o : Option (List α)} {p : Pos} (h : QX X d e ρ L o) (hm : X.mg "len" = none) (hs : starEach [e] X.env = (false, eval e X.env) :: starEach [] X.env := by rfl)
    (hh : X.mg "len" = none → ∀ {ta}, PE X e ta → PE X (.Call (.Name "len" p) [e] [] pos) (tCB (fun xs H Q => ∃ p ys, xs = [.ref p] ∧ (SqL X.K H p ys ∨ SqT X.K H p ys) ∧ Q (.int ys.length) H) (tCons ta tNil)) := by intro hm _ h; exact pe_callB call_len_seq (by rfl) hm PySem.boot_len (pa_cons h pa_nil)) :
    EX X dI (.Call (.Name "len" p) [e] [] pos) ρ L (o.map fun xs => (xs.length : Int)) := by
  obtain ⟨t, p, h⟩ := h
  refine ⟨_, hh hm p, fun z hz B F0 σ H vs ds Q s k => ?_⟩
  obtain ⟨xs, hx, rfl⟩ := Option.map_eq_some_iff.mp hz
  refine h xs hx B F0 σ H vs ds _ s fun v sl H1 q s1 => ?_
  obtain ⟨a, us, rfl, h1, h2, h3⟩ := s1.seq q
  refine ⟨a, us, rfl, h1, ?_⟩
  rw [h2, List.length_map]
  exact k _ _ s1.pop.int
theorem atI_map {α β : Type} (f : α → β) (xs : List α) (i : Int) : atI (xs.map f) i = (atI xs i).map f := by
  unfold atI
  rw [List.length_map]
  cases ixN xs.length i with
  | none => rfl
  | some j => simp
theorem pr_atI {α β : Type} {R : α → β → Prop} {xs : List α} {ys : List β} {i : Int} {y : β} (h : Paired R xs ys) (e : atI ys i = some y) : ∃ x, atI xs i = some x ∧ R x y := by
  unfold atI at e ⊢
  rw [Paired.length h]
  obtain ⟨j, hj, e⟩ := Option.bind_eq_some_iff.mp e
  obtain ⟨x, h1, h2⟩ := pr_get h e
  exact ⟨x, by rw [hj]; exact h1, h2⟩
/-- xs[i] -/
theorem x_ix {o : Option (List α)} {i : Expr} {oi : Option Int} (h : QX X d e ρ L o) (hi : EX X dI i ρ L oi) (hs : PlainIx i := by intro _ _; rfl) : EX X d (.Subscript e i pos) ρ L (o.bind fun xs => oi.bind fun n => atO xs n) := by
  obtain ⟨t, p, h⟩ := h
  obtain ⟨t', p', h'⟩ := hi
  refine ⟨_, pe_ix ix_seq p p' hs, fun z hz B F0 σ H vs ds Q s k => ?_⟩
  obtain ⟨xs, hx, hz⟩ := Option.bind_eq_some_iff.mp hz
  obtain ⟨n, hn, hz⟩ := Option.bind_eq_some_iff.mp hz
  refine h xs hx B F0 σ H vs ds _ s fun v sl H1 q s1 => h' n hn B F0 σ H1 _ _ _ s1 fun u H2 s2 => ?_
  have eu := s2.isInt
  obtain ⟨a, us, rfl, h1, h2, h3⟩ := s2.pop.seq q
  have hz' : atI (xs.map d) n = some (d z) := by rw [atI_map, show atI xs n = some z from hz]; rfl
  obtain ⟨F, ok, sl', sv⟩ := h3
  obtain ⟨sv1, sv2⟩ := pr_split (by rw [List.length_map]; exact h2) sv
  obtain ⟨w, hw, r⟩ := pr_atI sv1 (show atI ((xs.map d).map Sl.dat) n = some (.dat (d z)) by rw [atI_map, hz']; rfl)
  have fin : Q w H2 := k w H2 ⟨F, ok, sl', .cons r (by cases sv2 with | cons _ t => exact t)⟩
  rcases h1 with h1 | h1
  · exact .inl ⟨a, us, n, w, rfl, eu, h1, hw, fin⟩
  · exact .inr (.inl ⟨a, us, n, w, rfl, eu, h1, hw, fin⟩)
/-- p[0], p[1] of a pair -/
theorem x_ixT {i : Int} {n : Nat} {j : Nat} {p2 : Pos} {o : Option α} {xs : α → List PyData} {g : α → β} {d' : β → PyData} (h : EX X d e ρ L o) (q1 : ∀ a, d a = .tuple (xs a)) (q2 : ∀ a, atI (xs a) i = some (d' (g a))) (hs : PlainIx (.Constant (.int i) j p2) := by intro _ _; rfl) :
    EX X d' (.Subscript e (.Constant (.int i) j p2) pos) ρ L (o.map g) := by
  obtain ⟨t, p, h⟩ := h
  refine ⟨_, pe_ix ix_tup p pe_int hs, fun z hz B F0 σ H vs ds Q s k => ?_⟩
  obtain ⟨x, hx, rfl⟩ := Option.map_eq_some_iff.mp hz
  refine h x hx B F0 σ H vs ds _ s fun v H1 s1 => ?_
  rw [q1] at s1
  obtain ⟨a, us, rfl, h1, h2, _, h3⟩ := s1.tup1
  obtain ⟨F, ok, sl', sv⟩ := h3
  obtain ⟨sv1, sv2⟩ := pr_split (by rw [List.length_map]; exact h2) sv
  obtain ⟨w, hw, r⟩ := pr_atI sv1 (show atI ((xs x).map Sl.dat) i = some (.dat (d' (g x))) by rw [atI_map, q2]; rfl)
  exact ⟨a, us, i, w, rfl, rfl, SqT.of h1, hw, k w H1 ⟨F, ok, sl', .cons r (by cases sv2 with | cons _ t => exact t)⟩⟩
/-- list(xs) -/
theorem n_list {o : Option (List α)} {p : Pos} (h : QX X d e ρ L o) (hm : X.mg "list" = none) (hs : starEach [e] X.env = (false, eval e X.env) :: starEach [] X.env := by rfl)
    (hh : X.mg "list" = none → ∀ {ta}, PE X e ta → PE X (.Call (.Name "list" p) [e] [] pos) (tCB (fun xs H Q => ∃ p ys, xs = [.ref p] ∧ (SqL X.K H p ys ∨ SqT X.K H p ys) ∧ ∀ l, H l = none → Q (.ref l) (upd H l (.lst ys))) (tCons ta tNil)) := by intro hm _ h; exact pe_callTy call_list_of (by rfl) hm PyProof.Rows.boot_list (pa_cons h pa_nil)) :
    EN X d (.Call (.Name "list" p) [e] [] pos) ρ L (o.bind fun xs => szO xs.length xs) := by
  obtain ⟨t, p, h⟩ := h
  refine ⟨_, hh hm p, fun z hz B F0 σ H vs ds Q s k => ?_⟩
  obtain ⟨xs, hx, hz⟩ := Option.bind_eq_some_iff.mp hz
  unfold szO at hz
  split at hz
  · rename_i hl
    have e : xs = z := by simpa using hz
    subst e
    refine h xs hx B F0 σ H vs ds _ s fun v sl H1 q s1 => ?_
    obtain ⟨a, us, rfl, h1, h2, h3⟩ := s1.seq q
    have h2' : us.length = ((xs.map d).map Sl.dat).length := by rw [List.length_map]; exact h2
    have s3 : St X.K B F0 ρ L σ H1 (us ++ vs) ((xs.map d).map .dat ++ ds) := h3.stack fun F r => by
      obtain ⟨r1, r2⟩ := pr_split h2' r
      exact pr_app r1 (by cases r2 with | cons _ t => exact t)
    exact ⟨a, us, rfl, h1, fun l hl' => k _ _ (s3.newLst h2' hl' (by rw [h2, List.length_map]; exact hl))⟩
  · cases hz
/-- tuple(xs) -/
theorem x_tuple {o : Option (List α)} {p : Pos} (h : QX X d e ρ L o) (hm : X.mg "tuple" = none) (hs : starEach [e] X.env = (false, eval e X.env) :: starEach [] X.env := by rfl)
    (hh : X.mg "tuple" = none → ∀ {ta}, PE X e ta → PE X (.Call (.Name "tuple" p) [e] [] pos) (tCB (fun xs H Q => ∃ p ys, xs = [.ref p] ∧ ((SqL X.K H p ys ∧ ∀ l, H l = none → Q (.ref l) (upd H l (.tup ys))) ∨ (SqT X.K H p ys ∧ Q (.ref p) H))) (tCons ta tNil)) := by intro hm _ h; exact pe_callTy call_tuple_of (by rfl) hm PyProof.Rows.boot_tuple (pa_cons h pa_nil)) :
    EX X (dT d) (.Call (.Name "tuple" p) [e] [] pos) ρ L (o.bind fun xs => szO xs.length xs) := by
  obtain ⟨t, p, h⟩ := h
  refine ⟨_, hh hm p, fun z hz B F0 σ H vs ds Q s k => ?_⟩
  obtain ⟨xs, hx, hz⟩ := Option.bind_eq_some_iff.mp hz
  unfold szO at hz
  split at hz
  · rename_i hl
    have e : xs = z := by simpa using hz
    subst e
    refine h xs hx B F0 σ H vs ds _ s fun v sl H1 q s1 => ?_
    rcases s1.seq2 q with ⟨a, us, rfl, h1, h2, h3⟩ | ⟨a, us, rfl, h1, h2, h3, rfl⟩
    · have s3 := h3.stack (ws := us ++ vs) (es := (xs.map d).map .dat ++ ds) fun F r => by
        obtain ⟨r1, r2⟩ := pr_split (by rw [List.length_map]; exact h2) r
        exact pr_app r1 (by cases r2 with | cons _ t => exact t)
      exact ⟨a, us, rfl, .inl ⟨h1, fun l hl' => k _ _ (s3.newTup h2 hl' (by rw [h2, List.length_map]; exact hl))⟩⟩
    · exact ⟨a, us, rfl, .inr ⟨h1, k _ _ s1⟩⟩
  · cases hz
end
end Mir
namespace Mir
open PySem L2

/-! ### calls of own defs -/
def cutB (H : Hp) (L : Ow) : Hp := fun a => if a ∈ L.map (·.1) then none else H a
section
variable {K : PySem.W.Frag} {B F0 F F' H H' : Hp} {L L1 L1' L2 : Ow} {p : Addr}
theorem cutB_none (h : p ∈ L.map (·.1)) : cutB H L p = none := if_pos h
theorem cutB_of (h : p ∉ L.map (·.1)) : cutB H L p = H p := if_neg h
theorem Ok.part (k : Ok K B F0 F H (L1 ++ L2)) : Ok K B F0 F H L1 := by
  have nd := k.nd
  rw [List.map_append, List.nodup_append] at nd
  exact ⟨k.up, k.le, k.amb, k.new, k.sz, fun q m => k.own q (List.mem_append_left _ m), nd.1⟩
/-- a callee starts -/
theorem Ok.enter (k : Ok K B F0 F H (L1 ++ L2)) : Ok K (cutB H L1) F F H L1 := by
  have k1 := k.part
  refine ⟨Same.refl _, k.le, fun a o e => ?_, fun a o e => .inl e, k.sz, fun q m => ?_, k1.nd⟩
  · by_cases h : a ∈ L1.map (·.1)
    · rw [cutB_none h] at e; cases e
    · rw [cutB_of h] at e; exact e
  · obtain ⟨a, b, r⟩ := k1.own q m
    exact ⟨a, cutB_none (List.mem_map_of_mem m), r⟩
/-- .. and has ended -/
theorem Ok.leave (k : Ok K B F0 F H (L1 ++ L2)) (hk : L1'.map (·.1) = L1.map (·.1)) (k' : Ok K (cutB H L1) F F' H' L1') : Ok K B F0 F' H' (L1' ++ L2) := by
  have nd := k.nd
  rw [List.map_append, List.nodup_append] at nd
  have key : ∀ a, a ∈ L1.map (·.1) → F' a = none ∧ B a = none := fun a ha => by
    have ha' := ha
    rw [← hk] at ha'
    obtain ⟨q, hq, e⟩ := List.mem_map.mp ha'
    obtain ⟨q2, hq2, e2⟩ := List.mem_map.mp ha
    exact ⟨by rw [← e]; exact (k'.own q hq).1, by rw [← e2]; exact (k.own q2 (List.mem_append_left _ hq2)).2.1⟩
  refine ⟨k.up.trans k'.up, k'.le, fun a o e => ?_, fun a o e => ?_, k'.sz, fun q m => ?_, ?_⟩
  · refine k'.amb a o ?_
    by_cases h : a ∈ L1.map (·.1)
    · rw [(key a h).2] at e; cases e
    · rw [cutB_of h]; exact k.amb a o e
  · rcases k'.new a o e with h | h | h
    · exact k.new a o h
    · by_cases h2 : a ∈ L1.map (·.1)
      · rw [(key a h2).1] at e; cases e
      · rw [cutB_of h2] at h; exact .inr (.inl (k.amb.free h))
    · exact .inr (.inr h)
  · rcases List.mem_append.mp m with m | m
    · obtain ⟨a, b, r⟩ := k'.own q m
      exact ⟨a, (key q.1 (by rw [← hk]; exact List.mem_map_of_mem m)).2, r⟩
    · obtain ⟨a, b, r⟩ := k.own q (List.mem_append_right _ m)
      have n1 : q.1 ∉ L1.map (·.1) := fun z => nd.2.2 _ z q.1 (List.mem_map_of_mem m) rfl
      obtain ⟨o, ho, nt⟩ := r.there
      have e2 : H' q.1 = H q.1 := by rw [ho]; exact k'.amb _ _ (by rw [cutB_of n1]; exact ho)
      refine ⟨?_, b, r.mono k'.up e2⟩
      cases hF : F' q.1 with
      | none => rfl
      | some u =>
        rcases k'.new _ u hF with h | h | h
        · rw [a] at h; cases h
        · rw [cutB_of n1, ho] at h; cases h
        · have := k'.le _ _ hF
          rw [e2, ho] at this
          cases this
          exact (nt h).elim
  · rw [List.map_append, hk, List.nodup_append]; exact nd
theorem cutB_nil : cutB H [] = H := by funext a; exact if_neg (by simp)
theorem Ok.enter0 (k : Ok K B F0 F H L) : Ok K H F F H [] := by
  have := Ok.enter (L1 := []) k
  rw [cutB_nil] at this
  exact this
theorem Ok.leave0 (k : Ok K B F0 F H L) (k' : Ok K H F F' H' []) : Ok K B F0 F' H' L := Ok.leave (L1 := []) (L1' := []) k rfl (by rw [cutB_nil]; exact k')
end

/-- what a def that turns nothing of its caller's promises -/
def spP (K : PySem.W.Frag) {α β : Type} (enc : α → List Sl) (dR : β → PyData) (m : α → Option β) : Sp := fun vs H Q _ =>
  ∃ a r F, m a = some r ∧ Ok K H F F H [] ∧ Paired (SvR K F) vs (enc a) ∧ ∀ v F' H', Ok K H F F' H' [] → SvR K F' v (.dat (dR r)) → Q v H'
/-- .. one that turns the world w -/
def spG (K : PySem.W.Frag) {α β W : Type} (enc : α → List Sl) (dR : β → PyData) (Lf : W → Ow) (m : α → W → Option (β × W)) : Sp := fun vs H Q _ =>
  ∃ a w r w' B F, m a w = some (r, w') ∧ Ok K B F F H (Lf w) ∧ Paired (SvR K F) vs (enc a) ∧ ∀ v F' H', Ok K B F F' H' (Lf w') → SvR K F' v (.dat (dR r)) → Q v H'
/-- a def of the text at its name -/
structure Knows (P : Program) (w : World) (K : PySem.W.Frag) (mg : Str → Option Value) (base : Heap) (x : Str) (k : Nat) (ps : List Str) (sp : Sp) : Prop where
  ex : ∃ f fd, FnOk P w K mg base CX0 k f fd ps sp ∧ mg x = some (.ref f) ∧ PySem.W.keepIn K (.ref f) = true ∧ Binds K fd ps []
abbrev KnowsX (X : Cx) (x : Str) (k : Nat) (ps : List Str) (sp : Sp) : Prop := Knows X.prog X.w X.K X.mg X.base x k ps sp
theorem Knows.mono {P : Program} {w : World} {K : PySem.W.Frag} {mg : Str → Option Value} {base : Heap} {x : Str} {k j : Nat} {ps : List Str} {sp : Sp} (h : Knows P w K mg base x k ps sp) (e : k ≤ j) : Knows P w K mg base x j ps sp :=
  let ⟨f, fd, a, b, c, d⟩ := h; ⟨f, fd, a.mono e, b, c, d⟩

section
variable {X : Cx} {α β γ δ W : Type} {e a b c : Expr} {es : List Expr} {ρ : Env} {L : Ow} {p pos : Pos} {d : α → PyData} {d' : β → PyData} {x : Str} {k j : Nat} {ps : List Str}
/-- f(e, ..) -/
theorem x_call {enc : α → List Sl} {m : α → Option β} {o : Option α} (G : KnowsX X x k ps (spP X.K enc d' m)) (hr : Room j X.A) (ha : AX X enc (e :: es) ρ L o) (hj : k ≤ j := by decide)
    (hh : ∀ {f fd t}, FnOk X.prog X.w X.K X.mg X.base CX0 k f fd ps (spP X.K enc d' m) → X.mg x = some (.ref f) → PySem.W.keepIn X.K (.ref f) = true → Binds X.K fd ps [] → Room k X.A → PA X (e :: es) t →
      PE X (.Call (.Name x p) (e :: es) [] pos) (tCall (spP X.K enc d' m) [] E0 t) := by intro f fd t h1 h2 h3 h4 h5 h6; exact pe_call h1 h5 (by rfl) h2 h3 h4 .nil pass0 h6) :
    EX X d' (.Call (.Name x p) (e :: es) [] pos) ρ L (o.bind m) := by
  obtain ⟨f, fd, h1, h2, h3, h4⟩ := G
  obtain ⟨t, pa, ha⟩ := ha
  refine ⟨_, hh h1 h2 h3 h4 (hr.mono hj) pa, fun r hz B F0 σ H vs ds Q s q => ?_⟩
  obtain ⟨y, hy, hz⟩ := Option.bind_eq_some_iff.mp hz
  refine ha y hy B F0 σ H vs ds _ s fun us H1 e1 s1 => ?_
  rw [List.append_nil]
  obtain ⟨F, ok, sl, sv⟩ := s1
  obtain ⟨sv1, sv2⟩ := pr_split e1 sv
  exact ⟨y, r, F, hz, ok.enter0, sv1, fun v F' H' k' rv => q v H' ⟨F', ok.leave0 k', sls_mono k'.up sl, .cons rv (svs_mono k'.up sv2)⟩⟩
/-- f(state, e, ..), where f turns the world -/
theorem m_call {enc : α → List Sl} {Lf : W → Ow} {Lr : Ow} {m : α → W → Option (β × W)} {w : W} {o : Option (α × W)} (hL : ∀ w w', (Lf w').map (·.1) = (Lf w).map (·.1)) (G : KnowsX X x k ps (spG X.K enc d' Lf m)) (hr : Room j X.A) (ha : AM X enc (e :: es) ρ (fun w => Lf w ++ Lr) w o) (hj : k ≤ j := by decide)
    (hh : ∀ {f fd t}, FnOk X.prog X.w X.K X.mg X.base CX0 k f fd ps (spG X.K enc d' Lf m) → X.mg x = some (.ref f) → PySem.W.keepIn X.K (.ref f) = true → Binds X.K fd ps [] → Room k X.A → PA X (e :: es) t →
      PE X (.Call (.Name x p) (e :: es) [] pos) (tCall (spG X.K enc d' Lf m) [] E0 t) := by intro f fd t h1 h2 h3 h4 h5 h6; exact pe_call h1 h5 (by rfl) h2 h3 h4 .nil pass0 h6) :
    EM X d' (.Call (.Name x p) (e :: es) [] pos) ρ (fun w => Lf w ++ Lr) w (o.bind fun q => m q.1 q.2) := by
  obtain ⟨f, fd, h1, h2, h3, h4⟩ := G
  obtain ⟨t, pa, ha⟩ := ha
  refine ⟨_, hh h1 h2 h3 h4 (hr.mono hj) pa, fun r w2 hz B F0 σ H vs ds Q s q => ?_⟩
  obtain ⟨⟨y, w1⟩, hy, hz⟩ := Option.bind_eq_some_iff.mp hz
  refine ha y w1 hy B F0 σ H vs ds _ s fun us H1 e1 s1 => ?_
  rw [List.append_nil]
  obtain ⟨F, ok, sl, sv⟩ := s1
  obtain ⟨sv1, sv2⟩ := pr_split e1 sv
  exact ⟨y, w1, r, w2, _, F, hz, ok.enter, sv1, fun v F' H' k' rv => q v H' ⟨F', ok.leave (hL w1 w2) k', sls_mono k'.up sl, .cons rv (svs_mono k'.up sv2)⟩⟩
theorem AX.m {enc : α → List Sl} {Lf : W → Ow} {w : W} {o : Option α} (h : AX X enc es ρ (Lf w) o) : AM X enc es ρ Lf w (o.map fun a => (a, w)) := by
  obtain ⟨t, p, h⟩ := h
  refine ⟨t, p, fun a w' hm B F0 σ H vs ds Q s k => ?_⟩
  obtain ⟨x, hx, e⟩ := Option.map_eq_some_iff.mp hm
  injection e with e1 e2
  subst e1 e2
  exact h _ hx B F0 σ H vs ds Q s k
end

/-! ### blocks -/
inductive Oc where
  | nx (ρ : Env) (L : Ow)
  | rt (s : Sl) (L : Ow)
  | bk (ρ : Env) (L : Ow)
  | ct (ρ : Env) (L : Ow)
  | ro (f : Addr → Addr → Sl × Ow)
def Good (K : PySem.W.Frag) (B F0 : Hp) (vs : List V) (ds : List Sl) (D : Ends) : Oc → Prop
  | .nx ρ L => ∀ σ H, St K B F0 ρ L σ H vs ds → D.nx σ H
  | .rt s L => ∀ v H, St K B F0 [] L [] H (v :: vs) (s :: ds) → D.rt v H
  | .bk ρ L => ∀ σ H, St K B F0 ρ L σ H vs ds → D.bk σ H
  | .ct ρ L => ∀ σ H, St K B F0 ρ L σ H vs ds → D.ct σ H
  | .ro f => ∀ p q v H, St K B F0 [] (f p q).2 [] H (v :: vs) ((f p q).1 :: ds) → D.rt v H
/-- a block, a statement: from the names ρ and the owned L, by its mirror m to an outcome -/
def BX (X : Cx) {β : Type} (sts : List Stmt) (ρ : Env) (L : Ow) (m : Option β) (oc : β → Oc) : Prop :=
  ∃ t, PSs X sts t ∧ ∀ b, m = some b → ∀ B F0 σ H vs ds D, St X.K B F0 ρ L σ H vs ds → Good X.K B F0 vs ds D (oc b) → t D σ H
def SX (X : Cx) {β : Type} (st : Stmt) (ρ : Env) (L : Ow) (m : Option β) (oc : β → Oc) : Prop :=
  ∃ t, PS X st t ∧ ∀ b, m = some b → ∀ B F0 σ H vs ds D, St X.K B F0 ρ L σ H vs ds → Good X.K B F0 vs ds D (oc b) → t D σ H
/-- a target takes a value of the slot s -/
def GX (X : Cx) (tg : Expr) (ρ : Env) (L : Ow) (s : Sl) (ρ' : Env) : Prop :=
  ∃ g, PG X tg g ∧ ∀ B F0 σ H v vs ds Q, St X.K B F0 ρ L σ H (v :: vs) (s :: ds) → (∀ σ' H', St X.K B F0 ρ' L σ' H' vs ds → Q σ' H') → g v σ H Q
/-- what a part of a loop's or a branch's body comes to -/
inductive Fl (S R : Type) where
  | nx (s : S)
  | ct (s : S)
  | bk (s : S)
  | ex (r : R)
inductive Fx (S R : Type) where
  | go (s : S)
  | ex (r : R)
abbrev Vw (S : Type) := S → Env × Ow
abbrev Rd (R : Type) := R → Sl × Ow
def ocr {R : Type} (rd : Rd R) (r : R) : Oc := .rt (rd r).1 (rd r).2
def ocl {S R : Type} (vw : Vw S) (rd : Rd R) : Fl S R → Oc
  | .nx s => .nx (vw s).1 (vw s).2
  | .ct s => .ct (vw s).1 (vw s).2
  | .bk s => .bk (vw s).1 (vw s).2
  | .ex r => .rt (rd r).1 (rd r).2
def ocx {S R : Type} (vw : Vw S) (rd : Rd R) : Fx S R → Oc
  | .go s => .nx (vw s).1 (vw s).2
  | .ex r => .rt (rd r).1 (rd r).2
def ocn {S : Type} (vw : Vw S) (s : S) : Oc := .nx (vw s).1 (vw s).2
/-- on from a part that may have returned -/
def Fx.on {S R γ : Type} (ret : R → γ) (k : S → Option γ) : Fx S R → Option γ
  | .go s => k s
  | .ex r => some (ret r)
/-- a for's mirror -/
def forO {S α β : Type} (f : S → α → Option (Fl S β)) : List α → S → Option (Fx S β)
  | [], s => some (.go s)
  | x :: xs, s => (f s x).bind fun
    | .nx s => forO f xs s
    | .ct s => forO f xs s
    | .bk s => some (.go s)
    | .ex b => some (.ex b)
def foldO {S α : Type} (f : S → α → Option S) : List α → S → Option S
  | [], s => some s
  | x :: xs, s => (f s x).bind (foldO f xs)
/-- a while's mirror -/
def whileO {S β : Type} (c : S → Option Bool) (f : S → Option (Fl S β)) : Nat → S → Option (Fx S β)
  | 0, _ => none
  | n + 1, s => (c s).bind fun k => if k then (f s).bind fun
    | .nx s => whileO c f n s
    | .ct s => whileO c f n s
    | .bk s => some (.go s)
    | .ex b => some (.ex b)
    else some (.go s)

section
variable {X : Cx} {α β γ δ S T : Type} {e : Expr} {ρ ρ' : Env} {L : Ow} {pos : Pos} {st : Stmt} {sts rest : List Stmt} {d : α → PyData} {oc : β → Oc}
theorem BX.conv {m m' : Option β} (h : BX X sts ρ L m oc) (q : m = m') : BX X sts ρ L m' oc := q ▸ h
theorem SX.conv {m m' : Option β} (h : SX X st ρ L m oc) (q : m = m') : SX X st ρ L m' oc := q ▸ h
theorem BX.all {ρf : S → Env} {Lf : S → Ow} {k : S → Option β} (h : ∀ s, BX X sts (ρf s) (Lf s) (k s) oc) :
    ∃ t, PSs X sts t ∧ ∀ s b, k s = some b → ∀ B F0 σ H vs ds D, St X.K B F0 (ρf s) (Lf s) σ H vs ds → Good X.K B F0 vs ds D (oc b) → t D σ H := by
  refine ⟨fun D σ H => ∃ s b B F0 vs ds, k s = some b ∧ St X.K B F0 (ρf s) (Lf s) σ H vs ds ∧ Good X.K B F0 vs ds D (oc b), ⟨fun pins s σ H D I h2 => ?_⟩, fun s b e B F0 σ H vs ds D q g => ⟨s, b, B, F0, vs, ds, e, q, g⟩⟩
  obtain ⟨s', b, B, F0, vs, ds, e, q, g⟩ := h2
  obtain ⟨t, p, h⟩ := h s'
  exact p.run pins s σ H D I (h b e B F0 σ H vs ds D q g)
theorem SX.all {ρf : S → Env} {Lf : S → Ow} {k : S → Option β} (h : ∀ s, SX X st (ρf s) (Lf s) (k s) oc) :
    ∃ t, PS X st t ∧ ∀ s b, k s = some b → ∀ B F0 σ H vs ds D, St X.K B F0 (ρf s) (Lf s) σ H vs ds → Good X.K B F0 vs ds D (oc b) → t D σ H := by
  refine ⟨fun D σ H => ∃ s b B F0 vs ds, k s = some b ∧ St X.K B F0 (ρf s) (Lf s) σ H vs ds ∧ Good X.K B F0 vs ds D (oc b), ⟨fun pins s σ H D I h2 => ?_⟩, fun s b e B F0 σ H vs ds D q g => ⟨s, b, B, F0, vs, ds, e, q, g⟩⟩
  obtain ⟨s', b, B, F0, vs, ds, e, q, g⟩ := h2
  obtain ⟨t, p, h⟩ := h s'
  exact p.run pins s σ H D I (h b e B F0 σ H vs ds D q g)
theorem TX.all {c : Expr} {ρf : S → Env} {Lf : S → Ow} {k : S → Option Bool} (h : ∀ s, TX X c (ρf s) (Lf s) (k s)) :
    ∃ t, PT X c t ∧ ∀ s b, k s = some b → ∀ B F0 σ H vs ds Q, St X.K B F0 (ρf s) (Lf s) σ H vs ds → (∀ H', St X.K B F0 (ρf s) (Lf s) σ H' vs ds → Q b H') → t σ H Q := by
  refine ⟨fun σ H Q => ∃ s b B F0 vs ds, k s = some b ∧ St X.K B F0 (ρf s) (Lf s) σ H vs ds ∧ ∀ H', St X.K B F0 (ρf s) (Lf s) σ H' vs ds → Q b H', ⟨fun pins s σ H Q I h2 => ?_⟩, fun s b e B F0 σ H vs ds Q q g => ⟨s, b, B, F0, vs, ds, e, q, g⟩⟩
  obtain ⟨s', b, B, F0, vs, ds, e, q, g⟩ := h2
  obtain ⟨t, p, h⟩ := h s'
  exact p.run pins s σ H Q I (h b e B F0 σ H vs ds Q q g)
theorem GX.all {tg : Expr} {ρf ρf' : S → Env} {Lf : S → Ow} {sf : S → Sl} (h : ∀ s, GX X tg (ρf s) (Lf s) (sf s) (ρf' s)) :
    ∃ g, PG X tg g ∧ ∀ s B F0 σ H v vs ds Q, St X.K B F0 (ρf s) (Lf s) σ H (v :: vs) (sf s :: ds) → (∀ σ' H', St X.K B F0 (ρf' s) (Lf s) σ' H' vs ds → Q σ' H') → g v σ H Q := by
  refine ⟨fun v σ H Q => ∃ s B F0 vs ds, St X.K B F0 (ρf s) (Lf s) σ H (v :: vs) (sf s :: ds) ∧ ∀ σ' H', St X.K B F0 (ρf' s) (Lf s) σ' H' vs ds → Q σ' H', ⟨fun pins s σ H v u Q I r h2 => ?_⟩, fun s B F0 σ H v vs ds Q q g => ⟨s, B, F0, vs, ds, q, g⟩⟩
  obtain ⟨s', B, F0, vs, ds, q, g⟩ := h2
  obtain ⟨t, p, h⟩ := h s'
  exact p.run pins s σ H v u Q I r (h B F0 σ H v vs ds Q q g)
theorem EX.all {ρf : S → Env} {Lf : S → Ow} {k : S → Option α} (h : ∀ s, EX X d e (ρf s) (Lf s) (k s)) :
    ∃ t, PE X e t ∧ ∀ s b, k s = some b → ∀ B F0 σ H vs ds Q, St X.K B F0 (ρf s) (Lf s) σ H vs ds → (∀ v H', St X.K B F0 (ρf s) (Lf s) σ H' (v :: vs) (.dat (d b) :: ds) → Q v H') → t σ H Q := by
  refine ⟨fun σ H Q => ∃ s b B F0 vs ds, k s = some b ∧ St X.K B F0 (ρf s) (Lf s) σ H vs ds ∧ ∀ v H', St X.K B F0 (ρf s) (Lf s) σ H' (v :: vs) (.dat (d b) :: ds) → Q v H', ⟨fun pins s σ H Q I h2 => ?_⟩, fun s b e B F0 σ H vs ds Q q g => ⟨s, b, B, F0, vs, ds, e, q, g⟩⟩
  obtain ⟨s', b, B, F0, vs, ds, e, q, g⟩ := h2
  obtain ⟨t, p, h⟩ := h s'
  exact p.run pins s σ H Q I (h b e B F0 σ H vs ds Q q g)

/-! ### blocks of statements -/
/-- one statement that goes on, then the rest -/
theorem b_step {vw : Vw S} {m : Option S} {k : S → Option β} (h : SX X st ρ L m (ocn vw)) (hr : ∀ s, BX X rest (vw s).1 (vw s).2 (k s) oc) : BX X (st :: rest) ρ L (m.bind k) oc := by
  obtain ⟨t, p, h⟩ := h
  obtain ⟨t', p', hr⟩ := BX.all hr
  refine ⟨_, pss_cons p p', fun b hb B F0 σ H vs ds D s g => ?_⟩
  obtain ⟨x, hx, hb⟩ := Option.bind_eq_some_iff.mp hb
  exact h x hx B F0 σ H vs ds _ s fun σ' H' s' => hr x b hb B F0 σ' H' vs ds D s' g
/-- .. that may also return -/
theorem b_stepF {R : Type} {vw : Vw S} {rd : Rd R} {m : Option (Fx S R)} {k : S → Option β} (ret : R → β) (h : SX X st ρ L m (ocx vw rd)) (hr : ∀ s, BX X rest (vw s).1 (vw s).2 (k s) oc) (hret : ∀ r, oc (ret r) = .rt (rd r).1 (rd r).2 := by intro _; rfl) : BX X (st :: rest) ρ L (m.bind (Fx.on ret k)) oc := by
  obtain ⟨t, p, h⟩ := h
  obtain ⟨t', p', hr⟩ := BX.all hr
  refine ⟨_, pss_cons p p', fun b hb B F0 σ H vs ds D s g => ?_⟩
  obtain ⟨x, hm, hb⟩ := Option.bind_eq_some_iff.mp hb
  refine h x hm B F0 σ H vs ds _ s ?_
  cases x with
  | go x => exact fun σ' H' s' => hr x b hb B F0 σ' H' vs ds D s' g
  | ex r =>
    have e : ret r = b := by simpa [Fx.on] using hb
    subst e
    rw [hret] at g
    exact g
theorem b_one {m : Option β} (h : SX X st ρ L m oc) : BX X [st] ρ L m oc := by
  obtain ⟨t, p, h⟩ := h
  exact ⟨_, pss_one p, h⟩
/-- the slots that are kept -/
def mask : List Bool → Env → Env
  | b :: bs, s :: ρ => (if b then s else none) :: mask bs ρ
  | _, ρ => ρ
theorem pr_mask {K : PySem.W.Frag} {F : Hp} : ∀ (bs : List Bool) {σ : L2.St} {ρ : Env}, Paired (SlR K F) σ ρ → Paired (SlR K F) σ (mask bs ρ)
  | [], _, _, h => by unfold mask; exact h
  | b :: bs, _, _, .nil => by unfold mask; exact .nil
  | b :: bs, _, _, .cons r t => by
    unfold mask
    refine .cons ?_ (pr_mask bs t)
    cases b with
    | true => exact r
    | false => trivial
theorem St.mask {K : PySem.W.Frag} {B F0 H : Hp} {σ : L2.St} {vs : List V} {ds : List Sl} (bs : List Bool) (h : St K B F0 ρ L σ H vs ds) : St K B F0 (mask bs ρ) L σ H vs ds :=
  let ⟨F, k, a, b⟩ := h; ⟨F, k, pr_mask bs a, b⟩
theorem St.part {K : PySem.W.Frag} {B F0 H : Hp} {σ : L2.St} {vs : List V} {ds : List Sl} {L1 L2 : Ow} (h : St K B F0 ρ (L1 ++ L2) σ H vs ds) : St K B F0 ρ L1 σ H vs ds :=
  let ⟨F, k, a, b⟩ := h; ⟨F, k.part, a, b⟩
/-- the end of a block: some slots are forgotten, the youngest owned are let go -/
theorem b_end {b : β} {L1 L2 : Ow} (bs : List Bool) (h : oc b = .nx (mask bs ρ) L1) (hL : L = L1 ++ L2 := by rfl) : BX X [] ρ L (some b) oc :=
  ⟨_, pss_nil, fun b' hb B F0 σ H vs ds D s g => by
    cases hb
    rw [h] at g
    subst hL
    exact g σ H (s.mask bs).part⟩
theorem b_pass {b : β} {L1 L2 : Ow} (bs : List Bool) (h : oc b = .nx (mask bs ρ) L1) (hL : L = L1 ++ L2 := by rfl) : BX X [.Pass pos] ρ L (some b) oc :=
  ⟨_, pss_one ps_pass, fun b' hb B F0 σ H vs ds D s g => by
    cases hb
    rw [h] at g
    subst hL
    exact g σ H (s.mask bs).part⟩
theorem b_break {b : β} {L1 L2 : Ow} (bs : List Bool) (h : oc b = .bk (mask bs ρ) L1) (hL : L = L1 ++ L2 := by rfl) : BX X [.Break pos] ρ L (some b) oc :=
  ⟨_, pss_one ps_break, fun b' hb B F0 σ H vs ds D s g => by
    cases hb
    rw [h] at g
    subst hL
    exact g σ H (s.mask bs).part⟩
theorem b_continue {b : β} {L1 L2 : Ow} (bs : List Bool) (h : oc b = .ct (mask bs ρ) L1) (hL : L = L1 ++ L2 := by rfl) : BX X [.Continue pos] ρ L (some b) oc :=
  ⟨_, pss_one ps_continue, fun b' hb B F0 σ H vs ds D s g => by
    cases hb
    rw [h] at g
    subst hL
    exact g σ H (s.mask bs).part⟩
theorem St.noslots {K : PySem.W.Frag} {B F0 H : Hp} {σ : L2.St} {vs : List V} {ds : List Sl} (h : St K B F0 ρ L σ H vs ds) : St K B F0 [] L [] H vs ds :=
  let ⟨F, k, a, b⟩ := h; ⟨F, k, .nil, b⟩
/-- return e -/
theorem b_ret {o : Option α} {L1 L2 : Ow} (g : α → β) (h : EX X d e ρ L o) (hoc : ∀ a, oc (g a) = .rt (.dat (d a)) L1) (hL : L = L1 ++ L2 := by rfl) : BX X [.Return (some e) pos] ρ L (o.map g) oc := by
  obtain ⟨t, p, h⟩ := h
  refine ⟨_, pss_one (ps_ret p), fun b hb B F0 σ H vs ds D s q => ?_⟩
  obtain ⟨a, ha, rfl⟩ := Option.map_eq_some_iff.mp hb
  rw [hoc] at q
  subst hL
  exact h a ha B F0 σ H vs ds _ s fun v H' s' => q v H' s'.part.noslots
/-- return of an owned list -/
theorem b_retO {p : Addr} {xs : List α} {L1 L2 M : Ow} {b : β} (h : ES X e ρ L (some (.ptr p))) (hoc : oc b = .rt (.dat (dL d xs)) L1) (hL : L = L1 ++ (M ++ (p, OD.lst ((xs.map d).map .dat)) :: L2) := by rfl) : BX X [.Return (some e) pos] ρ L (some b) oc := by
  obtain ⟨t, p, h⟩ := h
  refine ⟨_, pss_one (ps_ret p), fun b hb B F0 σ H vs ds D s q => ?_⟩
  cases hb
  rw [hoc] at q
  subst hL
  refine h _ rfl B F0 σ H vs ds _ s fun v H' s' => q v H' ?_
  rw [← List.append_assoc] at s'
  have := s'.frz
  rw [List.append_assoc] at this
  exact this.part.noslots
/-- what never is come to -/
theorem b_never : BX X sts ρ L (none : Option β) oc := ⟨_, pss_never, fun _ h => by cases h⟩

/-! ### targets -/
theorem St.store {K : PySem.W.Frag} {B F0 H : Hp} {σ : L2.St} {v : V} {s : Sl} {vs : List V} {ds : List Sl} (i : Nat) (h : St K B F0 ρ L σ H (v :: vs) (s :: ds)) : St K B F0 (ρ.set i (some s)) L (σ.set i (some v)) H vs ds := by
  obtain ⟨F, k, a, b⟩ := h
  cases b with
  | cons r t => exact ⟨F, k, pr_set (show SlR K F (some v) (some s) from r) i a, t⟩
theorem g_name (i : Nat) {x : Str} {s : Sl} (hN : X.N.Nodup) (hi : X.N[i]? = some x := by rfl) (hx : Loc X.env.scope x := by first | exact Or.inl rfl | exact Or.inr rfl) (hf : X.fn x = true ∨ X.env.scope.names.lookup x = some .local := by first | exact .inl rfl | exact .inr rfl) : GX X (.Name x pos) ρ L s (ρ.set i (some s)) :=
  ⟨_, pg_name hN hi hx hf, fun B F0 σ H v vs ds Q st k => k _ _ (st.store i)⟩
/-- several targets -/
def GXs (X : Cx) (ts : List Expr) (ρ : Env) (L : Ow) (ss : List Sl) (ρ' : Env) : Prop :=
  ∃ g, PGs X ts g ∧ ∀ B F0 σ H us vs ds Q, us.length = ss.length → St X.K B F0 ρ L σ H (us ++ vs) (ss ++ ds) → (∀ σ' H', St X.K B F0 ρ' L σ' H' vs ds → Q σ' H') → g us σ H Q
theorem gs_nil : GXs X [] ρ L [] ρ := ⟨_, pgs_nil, fun B F0 σ H us vs ds Q e s k => by
  cases us with
  | nil => exact ⟨rfl, k σ H s⟩
  | cons u r => exact absurd e (by simp)⟩
theorem gs_cons {t : Expr} {ts : List Expr} {s : Sl} {ss : List Sl} {ρ1 ρ2 : Env} (h : GX X t ρ L s ρ1) (h' : GXs X ts ρ1 L ss ρ2) (hs : (assignEach (t :: ts) X.env).map (·.2) = assign t X.env :: (assignEach ts X.env).map (·.2) := by rfl) : GXs X (t :: ts) ρ L (s :: ss) ρ2 := by
  obtain ⟨g, p, h⟩ := h
  obtain ⟨g', p', h'⟩ := h'
  refine ⟨_, pgs_cons p p' hs, fun B F0 σ H us vs ds Q e st k => ?_⟩
  cases us with
  | nil => exact absurd e (by simp)
  | cons u r => exact ⟨u, r, rfl, h B F0 σ H u (r ++ vs) (ss ++ ds) _ st fun σ1 H1 s1 => h' B F0 σ1 H1 r vs ds Q (by simpa using e) s1 k⟩
/-- (a, b, ..) = a tuple -/
theorem g_tup {es : List Expr} {k : Nat} {xs : List PyData} (hc : X.calm = true) (h : GXs X es ρ L (xs.map .dat) ρ') (hn : (assignEach es X.env).length = xs.length := by rfl) (hst : (assignEach es X.env).findIdx? (·.1) = none := by rfl) : GX X (.Tuple es k pos) ρ L (.dat (.tuple xs)) ρ' := by
  obtain ⟨g, p, h⟩ := h
  refine ⟨_, pg_tup hc p hn hst, fun B F0 σ H v vs ds Q s k => ?_⟩
  obtain ⟨a, us, rfl, h1, h2, _, h3⟩ := s.tup1
  have s3 := h3.stack (ws := us ++ vs) (es := xs.map .dat ++ ds) fun F r => by
    obtain ⟨r1, r2⟩ := pr_split (by rw [List.length_map]; exact h2) r
    exact pr_app r1 (by cases r2 with | cons _ t => exact t)
  exact ⟨a, us, rfl, SqT.of h1, h2, h B F0 σ H us vs ds Q (by rw [List.length_map]; exact h2) s3 k⟩

/-! ### assignments -/
theorem s_asg {o : Option α} {tg : Expr} {ρf : α → Env} (h : EX X d e ρ L o) (hg : ∀ a, GX X tg ρ L (.dat (d a)) (ρf a)) (hs : swapsWithSole [tg] e pos.line X.env = pure false := by rfl) (hw : swappedStores [tg] e X.env = pure none := by rfl)
    (h1 : (assignEach [tg] X.env).map (·.2) = [assign tg X.env] := by rfl) : SX X (.Assign [tg] e pos) ρ L o (ocn fun a => (ρf a, L)) := by
  obtain ⟨t, p, h⟩ := h
  obtain ⟨g, p', hg⟩ := GX.all (ρf := fun _ => ρ) (Lf := fun _ => L) hg
  exact ⟨_, ps_asg p p' hs hw h1, fun a ha B F0 σ H vs ds D s q => h a ha B F0 σ H vs ds _ s fun v H1 s1 => hg a B F0 σ H1 v vs ds _ s1 q⟩
/-- x = e -/
theorem s_set {o : Option α} (i : Nat) {x : Str} {pos' : Pos} (hN : X.N.Nodup) (h : EX X d e ρ L o) (hs : swapsWith e (some (.Name x pos')) pos.line X.env = pure false := by rfl) (hi : X.N[i]? = some x := by rfl) (hx : Loc X.env.scope x := by first | exact Or.inl rfl | exact Or.inr rfl) (hf : X.fn x = true ∨ X.env.scope.names.lookup x = some .local := by first | exact .inl rfl | exact .inr rfl) :
    SX X (.Assign [.Name x pos'] e pos) ρ L o (ocn fun a => (ρ.set i (some (.dat (d a))), L)) := by
  obtain ⟨t, p, h⟩ := h
  exact ⟨_, ps_set hN hi hx p hs hf, fun a ha B F0 σ H vs ds D s q => h a ha B F0 σ H vs ds _ s fun v H1 s1 => q _ _ (s1.store i)⟩
theorem s_setM {W : Type} {Lf : W → Ow} {w : W} {o : Option (α × W)} (i : Nat) {x : Str} {pos' : Pos} (hN : X.N.Nodup) (h : EM X d e ρ Lf w o) (hs : swapsWith e (some (.Name x pos')) pos.line X.env = pure false := by rfl) (hi : X.N[i]? = some x := by rfl) (hx : Loc X.env.scope x := by first | exact Or.inl rfl | exact Or.inr rfl) (hf : X.fn x = true ∨ X.env.scope.names.lookup x = some .local := by first | exact .inl rfl | exact .inr rfl) :
    SX X (.Assign [.Name x pos'] e pos) ρ (Lf w) o (ocn fun a => (ρ.set i (some (.dat (d a.1))), Lf a.2)) := by
  obtain ⟨t, p, h⟩ := h
  exact ⟨_, ps_set hN hi hx p hs hf, fun a ha B F0 σ H vs ds D s q => h a.1 a.2 ha B F0 σ H vs ds _ s fun v H1 s1 => q _ _ (s1.store i)⟩
/-- x = a new owned object: its address is a new letter -/
theorem b_setO {od : α → OD} {o : Option α} {k : α → Option β} (i : Nat) {x : Str} {pos' : Pos} (hN : X.N.Nodup) (h : EO X od e ρ L o) (hr : ∀ p a, BX X rest (ρ.set i (some (.ptr p))) (L ++ [(p, od a)]) (k a) oc) (hs : swapsWith e (some (.Name x pos')) pos.line X.env = pure false := by rfl) (hi : X.N[i]? = some x := by rfl) (hx : Loc X.env.scope x := by first | exact Or.inl rfl | exact Or.inr rfl) (hf : X.fn x = true ∨ X.env.scope.names.lookup x = some .local := by first | exact .inl rfl | exact .inr rfl) :
    BX X (.Assign [.Name x pos'] e pos :: rest) ρ L (o.bind k) oc := by
  obtain ⟨t, p, h⟩ := h
  obtain ⟨t', p', hr⟩ := BX.all (S := Addr × α) (ρf := fun q => ρ.set i (some (.ptr q.1))) (Lf := fun q => L ++ [(q.1, od q.2)]) (k := fun q => k q.2) (fun q => hr q.1 q.2)
  refine ⟨_, pss_cons (ps_set hN hi hx p hs hf) p', fun b hb B F0 σ H vs ds D s g => ?_⟩
  obtain ⟨a, ha, hb⟩ := Option.bind_eq_some_iff.mp hb
  exact h a ha B F0 σ H vs ds _ s fun p H1 s1 => hr (p, a) b hb B F0 _ _ vs ds D (s1.store i) g
/-- e, its value dropped -/
theorem s_expr {o : Option α} (h : EX X d e ρ L o) (hs : swapsWith e none pos.line X.env = pure false := by rfl) : SX X (.Expr e pos) ρ L o (ocn fun _ => (ρ, L)) := by
  obtain ⟨t, p, h⟩ := h
  exact ⟨_, ps_expr p hs, fun a ha B F0 σ H vs ds D s q => h a ha B F0 σ H vs ds _ s fun v H1 s1 => q _ _ s1.pop⟩
end
end Mir
namespace Mir
open PySem L2

/-! ### if -/
section
variable {X : Cx} {α β γ δ S T : Type} {e c : Expr} {ρ ρ' : Env} {L : Ow} {pos : Pos} {st : Stmt} {sts rest A A' : List Stmt} {d : α → PyData} {oc : β → Oc}
theorem s_if {o : Option Bool} {m m' : Option β} (hc : TX X c ρ L o) (h : BX X A ρ L m oc) (h' : BX X A' ρ L m' oc) : SX X (.If c A A' pos) ρ L (o.bind fun k => if k then m else m') oc := by
  obtain ⟨t, p, hc⟩ := hc
  obtain ⟨t1, p1, h⟩ := h
  obtain ⟨t2, p2, h'⟩ := h'
  refine ⟨_, ps_if p p1 p2, fun b hb B F0 σ H vs ds D s g => ?_⟩
  obtain ⟨k, hk, hb⟩ := Option.bind_eq_some_iff.mp hb
  refine hc k hk B F0 σ H vs ds _ s fun H1 s1 => ?_
  cases k with
  | true => exact iteT (h b (by simpa using hb) B F0 σ H1 vs ds D s1 g)
  | false => exact iteF (h' b (by simpa using hb) B F0 σ H1 vs ds D s1 g)
/-- if c: .. that returns; the rest -/
theorem b_ifret {R : Type} {rd : Rd R} {o : Option Bool} {m : Option R} {k : Option β} (ret : R → β) (hc : TX X c ρ L o) (h : BX X A ρ L m (ocr rd)) (hr : BX X rest ρ L k oc) (hret : ∀ r, oc (ret r) = .rt (rd r).1 (rd r).2 := by intro _; rfl) : BX X (.If c A [] pos :: rest) ρ L (o.bind fun q => if q then m.map ret else k) oc := by
  obtain ⟨t, p, hc⟩ := hc
  obtain ⟨t1, p1, h⟩ := h
  obtain ⟨t2, p2, hr⟩ := hr
  refine ⟨_, pss_cons (ps_if p p1 pss_nil) p2, fun b hb B F0 σ H vs ds D s g => ?_⟩
  obtain ⟨q, hq, hb⟩ := Option.bind_eq_some_iff.mp hb
  refine hc q hq B F0 σ H vs ds _ s fun H1 s1 => ?_
  cases q with
  | true =>
    obtain ⟨r, hm, rfl⟩ := Option.map_eq_some_iff.mp (show m.map ret = some b by simpa using hb)
    rw [hret] at g
    exact iteT (h r hm B F0 σ H1 vs ds _ s1 g)
  | false => exact iteF (hr b (by simpa using hb) B F0 σ H1 vs ds D s1 g)
/-- if c: .. that goes to the loop's next turn; the rest -/
theorem b_ifct {R : Type} {vw : Vw S} {rd : Rd R} {o : Option Bool} {m : Option S} {k : Option (Fl S R)} (hc : TX X c ρ L o) (h : BX X A ρ L m (fun s => .ct (vw s).1 (vw s).2)) (hr : BX X rest ρ L k (ocl vw rd)) : BX X (.If c A [] pos :: rest) ρ L (o.bind fun q => if q then m.map .ct else k) (ocl vw rd) := by
  obtain ⟨t, p, hc⟩ := hc
  obtain ⟨t1, p1, h⟩ := h
  obtain ⟨t2, p2, hr⟩ := hr
  refine ⟨_, pss_cons (ps_if p p1 pss_nil) p2, fun b hb B F0 σ H vs ds D s g => ?_⟩
  obtain ⟨q, hq, hb⟩ := Option.bind_eq_some_iff.mp hb
  refine hc q hq B F0 σ H vs ds _ s fun H1 s1 => ?_
  cases q with
  | true =>
    obtain ⟨r, hm, rfl⟩ := Option.map_eq_some_iff.mp (show m.map Fl.ct = some b by simpa using hb)
    exact iteT (h r hm B F0 σ H1 vs ds _ s1 g)
  | false => exact iteF (hr b (by simpa using hb) B F0 σ H1 vs ds D s1 g)
theorem b_ifbk {R : Type} {vw : Vw S} {rd : Rd R} {o : Option Bool} {m : Option S} {k : Option (Fl S R)} (hc : TX X c ρ L o) (h : BX X A ρ L m (fun s => .bk (vw s).1 (vw s).2)) (hr : BX X rest ρ L k (ocl vw rd)) : BX X (.If c A [] pos :: rest) ρ L (o.bind fun q => if q then m.map .bk else k) (ocl vw rd) := by
  obtain ⟨t, p, hc⟩ := hc
  obtain ⟨t1, p1, h⟩ := h
  obtain ⟨t2, p2, hr⟩ := hr
  refine ⟨_, pss_cons (ps_if p p1 pss_nil) p2, fun b hb B F0 σ H vs ds D s g => ?_⟩
  obtain ⟨q, hq, hb⟩ := Option.bind_eq_some_iff.mp hb
  refine hc q hq B F0 σ H vs ds _ s fun H1 s1 => ?_
  cases q with
  | true =>
    obtain ⟨r, hm, rfl⟩ := Option.map_eq_some_iff.mp (show m.map Fl.bk = some b by simpa using hb)
    exact iteT (h r hm B F0 σ H1 vs ds _ s1 g)
  | false => exact iteF (hr b (by simpa using hb) B F0 σ H1 vs ds D s1 g)
/-- .. with an else that goes on into the rest by one state -/
theorem b_if {vw : Vw S} {o : Option Bool} {m m' : Option S} {k : S → Option β} (hc : TX X c ρ L o) (h : BX X A ρ L m (ocn vw)) (h' : BX X A' ρ L m' (ocn vw)) (hr : ∀ s, BX X rest (vw s).1 (vw s).2 (k s) oc) :
    BX X (.If c A A' pos :: rest) ρ L ((o.bind fun q => if q then m else m').bind k) oc := b_step (s_if hc h h') hr

/-! ### what a loop walks -/
/-- J yields xs, as long as the values pv of the slots pd are held and what is owned is as PL says -/
def Walk (K : PySem.W.Frag) (J : It) (pv : List V) (pd : List Sl) (PL : Ow → Prop) (e : α → Sl) (xs : List α) : Prop :=
  ∀ B F0 ρ L σ H vs ds i, PL L → St K B F0 ρ L σ H (pv ++ vs) (pd ++ ds) → (i = xs.length → J.stop i H) ∧ ∀ x, xs[i]? = some x → J.go i H ∧ ∀ y H', J.yld i H y H' → St K B F0 ρ L σ H' (y :: (pv ++ vs)) (e x :: (pd ++ ds))
def IX (X : Cx) (tg iter : Expr) (ρ : Env) (L : Ow) (PL : Ow → Prop) (lim : Bool) (e : α → Sl) (o : Option (List α)) : Prop :=
  ∃ wi, PI X tg iter wi ∧ ∀ xs, o = some xs → ∀ B F0 σ H vs ds R, St X.K B F0 ρ L σ H vs ds →
    (∀ J H1 pv pd, pv.length = pd.length → (lim = true → xs.length ≤ sizeLine) → St X.K B F0 ρ L σ H1 (pv ++ vs) (pd ++ ds) → Walk X.K J pv pd PL e xs → R J H1) → wi σ H R
abbrev anyL : Ow → Prop := fun _ => True
theorem IX.conv {tg iter : Expr} {PL : Ow → Prop} {lim : Bool} {e : α → Sl} {o o' : Option (List α)} (h : IX X tg iter ρ L PL lim e o) (q : o = o') : IX X tg iter ρ L PL lim e o' := q ▸ h

/-! ### for -/
theorem s_for {R : Type} {rd : Rd R} {vw : Vw S} {tg iter : Expr} {body : List Stmt} {PL : Ow → Prop} {lim : Bool} {en : α → Sl} {o : Option (List α)} {f : S → α → Option (Fl S R)} {ρb : S → α → Env} {s0 : S} {bs : List Bool} {M1 M2 : Ow} (hp : PassesOwn (model X.prog X.w) X.A X.env X.xe) (hc : X.calm = true)
    (hi : IX X tg iter ρ L PL lim en o) (hg : ∀ s x, GX X tg (vw s).1 (vw s).2 (en x) (ρb s x)) (hb : ∀ s x, BX X body (ρb s x) (vw s).2 (f s x) (ocl vw rd)) (hPL : ∀ s, PL (vw s).2) (h0 : vw s0 = (mask bs ρ, M1)) (hL : L = M1 ++ M2 := by rfl)
    (hs : ∀ x, foldedSetIterable iter X.env x = pure x := by intro _; rfl) :
    SX X (.For tg iter body [] pos) ρ L (o.bind fun xs => forO f xs s0) (ocx vw rd) := by
  obtain ⟨wi, pi, hi⟩ := hi
  obtain ⟨g, pg, hg⟩ := GX.all (S := S × α) (ρf := fun q => (vw q.1).1) (Lf := fun q => (vw q.1).2) (sf := fun q => en q.2) (ρf' := fun q => ρb q.1 q.2) fun q => hg q.1 q.2
  obtain ⟨tb, pb, hb⟩ := BX.all (S := S × α) (ρf := fun q => ρb q.1 q.2) (Lf := fun q => (vw q.1).2) (k := fun q => f q.1 q.2) fun q => hb q.1 q.2
  refine ⟨_, ps_for hp hc pi pg pb hs, fun b hm B F0 σ H vs ds D s gd => ?_⟩
  obtain ⟨xs, hx, hm⟩ := Option.bind_eq_some_iff.mp hm
  refine hi xs hx B F0 σ H vs ds _ s fun J H1 pv pd hl _ s1 w => ?_
  refine ⟨fun i m σ H => m = xs.length - i ∧ i ≤ xs.length ∧ ∃ t, forO f (xs.drop i) t = some b ∧ St X.K B F0 (vw t).1 (vw t).2 σ H (pv ++ vs) (pd ++ ds), ⟨_, rfl, Nat.zero_le _, s0, hm, ?_⟩, ?_⟩
  · rw [h0]
    subst hL
    exact (s1.mask bs).part
  rintro i m σ2 H2 ⟨rfl, hi2, t, ht, s2⟩
  obtain ⟨w1, w2⟩ := w B F0 _ _ σ2 H2 vs ds i (hPL t) s2
  have popn : ∀ {ρ : Env} {L : Ow} {σ : L2.St} {H : Hp}, St X.K B F0 ρ L σ H (pv ++ vs) (pd ++ ds) → St X.K B F0 ρ L σ H vs ds := fun q => q.stack fun F r => (pr_split hl r).2
  by_cases hlt : i < xs.length
  · obtain ⟨go, yl⟩ := w2 xs[i] (List.getElem?_eq_getElem hlt)
    rw [List.drop_eq_getElem_cons hlt] at ht
    obtain ⟨r, hr, ht⟩ := Option.bind_eq_some_iff.mp ht
    refine .inr ⟨go, fun σ' H' => ∃ t', forO f (xs.drop (i + 1)) t' = some b ∧ St X.K B F0 (vw t').1 (vw t').2 σ' H' (pv ++ vs) (pd ++ ds), fun σ' H' q => ⟨xs.length - (i + 1), by omega, rfl, hlt, q⟩, fun y H' hy => ?_⟩
    refine hg (t, xs[i]) B F0 σ2 H' y _ _ _ (yl y H' hy) fun σ3 H3 s3 => ?_
    refine hb (t, xs[i]) r hr B F0 σ3 H3 _ _ _ s3 ?_
    cases r with
    | nx t' => exact fun σ' H' q => ⟨t', ht, q⟩
    | ct t' => exact fun σ' H' q => ⟨t', ht, q⟩
    | bk t' =>
      have e : Fx.go t' = b := by simpa using ht
      subst e
      exact fun σ' H' q => gd σ' H' (popn q)
    | ex b' =>
      have e : Fx.ex b' = b := by simpa using ht
      subst e
      exact fun v H' q => gd v H' (q.stack fun F r => by cases r with | cons r1 r2 => exact .cons r1 (pr_split hl r2).2)
  · have e : i = xs.length := by omega
    have e2 : xs.drop i = [] := by rw [e]; exact List.drop_length
    rw [e2] at ht
    have e3 : Fx.go t = b := by simpa [forO] using ht
    subst e3
    exact .inl ⟨w1 e, gd σ2 H2 (popn s2)⟩
/-- .. whose body always goes on -/
theorem s_fold {vw : Vw S} {tg iter : Expr} {body : List Stmt} {PL : Ow → Prop} {lim : Bool} {en : α → Sl} {o : Option (List α)} {f : S → α → Option S} {ρb : S → α → Env} {s0 : S} {bs : List Bool} {M1 M2 : Ow} (hp : PassesOwn (model X.prog X.w) X.A X.env X.xe) (hc : X.calm = true)
    (hi : IX X tg iter ρ L PL lim en o) (hg : ∀ s x, GX X tg (vw s).1 (vw s).2 (en x) (ρb s x)) (hb : ∀ s x, BX X body (ρb s x) (vw s).2 (f s x) (ocn vw)) (hPL : ∀ s, PL (vw s).2) (h0 : vw s0 = (mask bs ρ, M1)) (hL : L = M1 ++ M2 := by rfl)
    (hs : ∀ x, foldedSetIterable iter X.env x = pure x := by intro _; rfl) :
    SX X (.For tg iter body [] pos) ρ L (o.bind fun xs => foldO f xs s0) (ocn vw) := by
  have hb' : ∀ s x, BX X body (ρb s x) (vw s).2 ((f s x).map Fl.nx) (ocl vw (fun r : Empty => nomatch r)) := fun s x => by
    obtain ⟨t, p, h⟩ := hb s x
    refine ⟨t, p, fun b e => ?_⟩
    obtain ⟨y, hy, rfl⟩ := Option.map_eq_some_iff.mp e
    exact h y hy
  obtain ⟨t, p, h⟩ := s_for (f := fun s x => (f s x).map Fl.nx) (s0 := s0) hp hc hi hg hb' hPL h0 hL hs
  have key : ∀ (xs : List α) (s r : S), foldO f xs s = some r → forO (fun s x => (f s x).map (Fl.nx (R := Empty))) xs s = some (.go r) := by
    intro xs
    induction xs with
    | nil => intro s r e; simpa [foldO, forO] using e
    | cons x xs ih =>
      intro s r e
      obtain ⟨y, hy, e⟩ := Option.bind_eq_some_iff.mp e
      show ((f s x).map Fl.nx).bind _ = _
      rw [hy]
      exact ih y r e
  refine ⟨t, p, fun b e => h (.go b) ?_⟩
  obtain ⟨xs, hx, e⟩ := Option.bind_eq_some_iff.mp e
  rw [hx]
  exact key xs s0 b e

/-! ### while -/
theorem s_while {R : Type} {rd : Rd R} {vw : Vw S} {body : List Stmt} {cf : S → Option Bool} {f : S → Option (Fl S R)} {n : Nat} {s0 : S} {bs : List Bool} {M1 M2 : Ow} (hp : PassesOwn (model X.prog X.w) X.A X.env X.xe)
    (hcn : ∀ s, TX X c (vw s).1 (vw s).2 (cf s)) (hb : ∀ s, BX X body (vw s).1 (vw s).2 (f s) (ocl vw rd)) (h0 : vw s0 = (mask bs ρ, M1)) (hL : L = M1 ++ M2 := by rfl) :
    SX X (.While c body [] pos) ρ L (whileO cf f n s0) (ocx vw rd) := by
  obtain ⟨tc, pc, hcn⟩ := TX.all hcn
  obtain ⟨tb, pb, hb⟩ := BX.all hb
  refine ⟨_, ps_while hp pc pb, fun b hm B F0 σ H vs ds D s gd => ?_⟩
  refine ⟨fun m σ H => ∃ t, whileO cf f m t = some b ∧ St X.K B F0 (vw t).1 (vw t).2 σ H vs ds, ⟨n, s0, hm, ?_⟩, ?_⟩
  · rw [h0]
    subst hL
    exact (s.mask bs).part
  rintro m σ2 H2 ⟨t, ht, s2⟩
  cases m with
  | zero => exact absurd ht (by simp [whileO])
  | succ m =>
    obtain ⟨k, hk, ht⟩ := Option.bind_eq_some_iff.mp ht
    refine hcn t k hk B F0 σ2 H2 vs ds _ s2 fun H3 s3 => ?_
    cases k with
    | true =>
      have ht' := ht
      rw [if_pos rfl] at ht'
      obtain ⟨r, hr, ht'⟩ := Option.bind_eq_some_iff.mp ht'
      refine iteT ⟨fun σ' H' => ∃ t', whileO cf f m t' = some b ∧ St X.K B F0 (vw t').1 (vw t').2 σ' H' vs ds, fun σ' H' q => ⟨m, Nat.lt_succ_self m, q⟩, ?_⟩
      refine hb t r hr B F0 σ2 H3 vs ds _ s3 ?_
      cases r with
      | nx t' => exact fun σ' H' q => ⟨t', ht', q⟩
      | ct t' => exact fun σ' H' q => ⟨t', ht', q⟩
      | bk t' =>
        have e : Fx.go t' = b := by simpa using ht'
        subst e
        exact fun σ' H' q => gd σ' H' q
      | ex b' =>
        have e : Fx.ex b' = b := by simpa using ht'
        subst e
        exact fun v H' q => gd v H' q
    | false =>
      have e : Fx.go t = b := by simpa using ht
      subst e
      exact iteF (gd σ2 H3 s3)
/-- .. whose body always goes on -/
def loopO {S : Type} (c : S → Option Bool) (f : S → Option S) : Nat → S → Option S
  | 0, _ => none
  | n + 1, s => (c s).bind fun k => if k then (f s).bind (loopO c f n) else some s
theorem s_loop {vw : Vw S} {body : List Stmt} {cf : S → Option Bool} {f : S → Option S} {n : Nat} {s0 : S} {bs : List Bool} {M1 M2 : Ow} (hp : PassesOwn (model X.prog X.w) X.A X.env X.xe)
    (hcn : ∀ s, TX X c (vw s).1 (vw s).2 (cf s)) (hb : ∀ s, BX X body (vw s).1 (vw s).2 (f s) (ocn vw)) (h0 : vw s0 = (mask bs ρ, M1)) (hL : L = M1 ++ M2 := by rfl) :
    SX X (.While c body [] pos) ρ L (loopO cf f n s0) (ocn vw) := by
  have hb' : ∀ s, BX X body (vw s).1 (vw s).2 ((f s).map Fl.nx) (ocl vw (fun r : Empty => nomatch r)) := fun s => by
    obtain ⟨t, p, h⟩ := hb s
    refine ⟨t, p, fun b e => ?_⟩
    obtain ⟨y, hy, rfl⟩ := Option.map_eq_some_iff.mp e
    exact h y hy
  obtain ⟨t, p, h⟩ := s_while (pos := pos) (f := fun s => (f s).map Fl.nx) (n := n) (s0 := s0) hp hcn hb' h0 hL
  have key : ∀ (n : Nat) (s r : S), loopO cf f n s = some r → whileO cf (fun s => (f s).map (Fl.nx (R := Empty))) n s = some (.go r) := by
    intro n
    induction n with
    | zero => intro s r e; simp [loopO] at e
    | succ n ih =>
      intro s r e
      obtain ⟨k, hk, e⟩ := Option.bind_eq_some_iff.mp e
      show (cf s).bind _ = _
      rw [hk]
      cases k with
      | false => simpa using e
      | true =>
        rw [if_pos rfl] at e
        obtain ⟨y, hy, e⟩ := Option.bind_eq_some_iff.mp e
        simp only [Option.bind_some, if_true, hy, Option.map_some]
        exact ih y r e
  exact ⟨t, p, fun b e => h (.go b) (key n s0 b e)⟩
end
end Mir
namespace Mir
open PySem L2

/-! ### the iterables -/
section
variable {K : PySem.W.Frag} {B F0 H : Hp} {L : Ow} {ρ : Env} {σ : L2.St} {vs us pv : List V} {ds es pd : List Sl} {α β : Type}
/-- one of those on the stack, on top -/
theorem St.pick {xs : List Sl} {i : Nat} {s : Sl} (h : St K B F0 ρ L σ H (us ++ vs) (xs ++ ds)) (e : us.length = xs.length) (hx : xs[i]? = some s) : ∃ y, us[i]? = some y ∧ St K B F0 ρ L σ H (y :: vs) (s :: ds) := by
  obtain ⟨F, k, a, b⟩ := h
  obtain ⟨b1, b2⟩ := pr_split e b
  obtain ⟨y, hy, r⟩ := pr_get b1 hx
  exact ⟨y, hy, F, k, a, .cons r b2⟩
theorem walk_lst {a : Addr} {d : α → PyData} {xs : List α} (hv : pv = [.ref a]) (hd : pd = [.dat (.list (xs.map d))]) : Walk K (Itl K a) pv pd anyL (fun x => .dat (d x)) xs := by
  subst hv hd
  intro B F0 ρ L σ H vs ds i _ s
  obtain ⟨a', us, e, h1, h2, _, h3⟩ := s.lst1
  cases e
  rw [List.length_map] at h2
  refine ⟨fun e => ⟨us, SqL.of h1, by omega⟩, fun x hx => ?_⟩
  obtain ⟨y, hy, s4⟩ := h3.pick (by rw [List.length_map, List.length_map]; exact h2) (show ((xs.map d).map Sl.dat)[i]? = some (.dat (d x)) by simp [hx])
  refine ⟨⟨us, y, SqL.of h1, hy⟩, fun z H' hz => ?_⟩
  obtain ⟨rfl, hz⟩ := hz
  have e2 := hz us (SqL.of h1)
  rw [hy] at e2
  cases e2
  exact s4
theorem walk_tup {a : Addr} {d : α → PyData} {xs : List α} (hv : pv = [.ref a]) (hd : pd = [.dat (.tuple (xs.map d))]) : Walk K (Itt K a) pv pd anyL (fun x => .dat (d x)) xs := by
  subst hv hd
  intro B F0 ρ L σ H vs ds i _ s
  obtain ⟨a', us, e, h1, h2, _, h3⟩ := s.tup1
  cases e
  rw [List.length_map] at h2
  refine ⟨fun e => ⟨us, SqT.of h1, by omega⟩, fun x hx => ?_⟩
  obtain ⟨y, hy, s4⟩ := h3.pick (by rw [List.length_map, List.length_map]; exact h2) (show ((xs.map d).map Sl.dat)[i]? = some (.dat (d x)) by simp [hx])
  refine ⟨⟨us, y, SqT.of h1, hy⟩, fun z H' hz => ?_⟩
  obtain ⟨rfl, hz⟩ := hz
  have e2 := hz us (SqT.of h1)
  rw [hy] at e2
  cases e2
  exact s4
theorem walk_own {a : Addr} {d : α → PyData} {xs : List α} : Walk K (Itl K a) [] [] (fun L => (a, OD.lst ((xs.map d).map .dat)) ∈ L) (fun x => .dat (d x)) xs := by
  intro B F0 ρ L σ H vs ds i hL s
  obtain ⟨us, h1, h2, _, h3⟩ := s.own1 hL
  have h2' : us.length = xs.length := by rw [h2, List.length_map, List.length_map]
  refine ⟨fun e => ⟨us, SqL.of h1, by omega⟩, fun x hx => ?_⟩
  obtain ⟨y, hy, s4⟩ := h3.pick h2 (show ((xs.map d).map Sl.dat)[i]? = some (.dat (d x)) by simp [hx])
  refine ⟨⟨us, y, SqL.of h1, hy⟩, fun z H' hz => ?_⟩
  obtain ⟨rfl, hz⟩ := hz
  have e2 := hz us (SqL.of h1)
  rw [hy] at e2
  cases e2
  exact s4
theorem walk_rng {lo : Int} {n : Nat} {xs : List Int} (hx : xs = (List.range n).map fun i => lo + (i : Nat)) : Walk K (Itr lo n) [] [] anyL (fun x => .dat (dI x)) xs := by
  intro B F0 ρ L σ H vs ds i _ s
  subst hx
  refine ⟨fun e => ?_, fun x hx => ?_⟩
  · rw [List.length_map, List.length_range] at e
    show n ≤ i
    omega
  · rw [List.getElem?_map] at hx
    obtain ⟨j, hj, rfl⟩ := Option.map_eq_some_iff.mp hx
    obtain ⟨h1, h2⟩ := List.getElem?_eq_some_iff.mp hj
    rw [List.length_range] at h1
    rw [List.getElem_range] at h2
    subst h2
    exact ⟨h1, fun y H' hy => by obtain ⟨rfl, rfl⟩ := hy; exact s.int⟩
theorem walk_revL {a : Addr} {d : α → PyData} {xs : List α} (hv : pv = [.ref a]) (hd : pd = [.dat (.list (xs.map d))]) : Walk K (Itv K a xs.length) pv pd anyL (fun x => .dat (d x)) xs.reverse := by
  subst hv hd
  intro B F0 ρ L σ H vs ds i _ s
  obtain ⟨a', us, e, h1, h2, _, h3⟩ := s.lst1
  cases e
  rw [List.length_map] at h2
  refine ⟨fun e => ?_, fun x hx => ?_⟩
  · rw [List.length_reverse] at e
    show xs.length ≤ i
    omega
  · have hi : i < xs.length := by
      have := (List.getElem?_eq_some_iff.mp hx).1
      rw [List.length_reverse] at this
      exact this
    rw [List.getElem?_reverse hi] at hx
    obtain ⟨y, hy, s4⟩ := h3.pick (by rw [List.length_map, List.length_map]; exact h2) (show ((xs.map d).map Sl.dat)[xs.length - 1 - i]? = some (.dat (d x)) by simp [hx])
    refine ⟨⟨hi, us, y, SqL.of h1, hy⟩, fun z H' hz => ?_⟩
    obtain ⟨rfl, hz⟩ := hz
    have e2 := hz us (SqL.of h1)
    rw [hy] at e2
    cases e2
    exact s4
theorem walk_revT {a : Addr} {d : α → PyData} {xs : List α} (hv : pv = [.ref a]) (hd : pd = [.dat (.tuple (xs.map d))]) : Walk K (RT.ItvT K a xs.length) pv pd anyL (fun x => .dat (d x)) xs.reverse := by
  subst hv hd
  intro B F0 ρ L σ H vs ds i _ s
  obtain ⟨a', us, e, h1, h2, _, h3⟩ := s.tup1
  cases e
  rw [List.length_map] at h2
  refine ⟨fun e => ?_, fun x hx => ?_⟩
  · rw [List.length_reverse] at e
    show xs.length ≤ i
    omega
  · have hi : i < xs.length := by
      have := (List.getElem?_eq_some_iff.mp hx).1
      rw [List.length_reverse] at this
      exact this
    rw [List.getElem?_reverse hi] at hx
    obtain ⟨y, hy, s4⟩ := h3.pick (by rw [List.length_map, List.length_map]; exact h2) (show ((xs.map d).map Sl.dat)[xs.length - 1 - i]? = some (.dat (d x)) by simp [hx])
    refine ⟨⟨hi, us, y, SqT.of h1, hy⟩, fun z H' hz => ?_⟩
    obtain ⟨rfl, hz⟩ := hz
    have e2 := hz us (SqT.of h1)
    rw [hy] at e2
    cases e2
    exact s4
def enumI {α : Type} (xs : List α) : List (Int × α) := ((List.range xs.length).zip xs).map fun p => ((p.1 : Int), p.2)
theorem enumI_get {xs : List α} {i : Nat} {p : Int × α} (h : (enumI xs)[i]? = some p) : ∃ x, xs[i]? = some x ∧ p = ((i : Int), x) := by
  unfold enumI at h
  rw [List.getElem?_map] at h
  obtain ⟨⟨j, x⟩, hj, rfl⟩ := Option.map_eq_some_iff.mp h
  obtain ⟨h1, h2⟩ := List.getElem?_zip_eq_some.mp hj
  obtain ⟨h3, h4⟩ := List.getElem?_eq_some_iff.mp h1
  rw [List.getElem_range] at h4
  exact ⟨x, h2, by simp [h4]⟩
theorem enumI_length (xs : List α) : (enumI xs).length = xs.length := by unfold enumI; simp
theorem walk_enum {a : Addr} {d : α → PyData} {xs : List α} (hv : pv = [.ref a]) (hd : pd = [.dat (.list (xs.map d))]) : Walk K (Ite K a) pv pd anyL (fun x => .dat (dP dI d x)) (enumI xs) := by
  subst hv hd
  intro B F0 ρ L σ H vs ds i _ s
  obtain ⟨a', us, e, h1, h2, _, h3⟩ := s.lst1
  cases e
  rw [List.length_map] at h2
  refine ⟨fun e => ⟨us, SqL.of h1, by rw [enumI_length] at e; omega⟩, fun p hp => ?_⟩
  obtain ⟨x, hx, rfl⟩ := enumI_get hp
  obtain ⟨y, hy, s4⟩ := h3.pick (by rw [List.length_map, List.length_map]; exact h2) (show ((xs.map d).map Sl.dat)[i]? = some (.dat (d x)) by simp [hx])
  refine ⟨⟨us, y, SqL.of h1, hy⟩, fun z H' hz => ?_⟩
  obtain ⟨T, y', rfl, hT, rfl, hz⟩ := hz
  have e2 := hz us (SqL.of h1)
  rw [hy] at e2
  cases e2
  exact St.newTup (xs := [.int (i : Nat), d x]) (us := [.int (i : Nat), y]) s4.int rfl hT (sz_of (by decide : 2 ≤ 1000))
theorem zip_get {xs : List α} {ys : List β} {i : Nat} {p : α × β} (h : (xs.zip ys)[i]? = some p) : xs[i]? = some p.1 ∧ ys[i]? = some p.2 := List.getElem?_zip_eq_some.mp h
end

section
variable {X : Cx} {α β γ δ S T : Type} {tg e e2 a b : Expr} {ρ ρ' : Env} {L : Ow} {p pos tpos : Pos} {d : α → PyData} {d' : β → PyData}
theorem St.len1 {K : PySem.W.Frag} {B F0 H : Hp} {σ : L2.St} {v : V} {vs : List V} {ds : List Sl} {xs : List PyData} (h : St K B F0 ρ L σ H (v :: vs) (.dat (.list xs) :: ds)) : xs.length ≤ sizeLine := by
  obtain ⟨_, us, _, _, h2, h3, _⟩ := h.lst1
  omega
theorem St.len2 {K : PySem.W.Frag} {B F0 H : Hp} {σ : L2.St} {v : V} {vs : List V} {ds : List Sl} {xs : List PyData} (h : St K B F0 ρ L σ H (v :: vs) (.dat (.tuple xs) :: ds)) : xs.length ≤ sizeLine := by
  obtain ⟨_, us, _, _, h2, h3, _⟩ := h.tup1
  omega
/-- a list that is data, a tuple, an owned list, the script -/
theorem i_lst {o : Option (List α)} (h : EX X (dL d) e ρ L o) : IX X tg e ρ L anyL true (fun x => .dat (d x)) o := by
  obtain ⟨t, q, h⟩ := h
  refine ⟨_, pi_list q, fun xs hx B F0 σ H vs ds R s k => h xs hx B F0 σ H vs ds _ s fun v H1 s1 => ?_⟩
  obtain ⟨a, us, rfl, h1, h2, h2', h3⟩ := s1.lst1
  exact ⟨a, rfl, ⟨us, SqL.of h1⟩, k _ H1 [.ref a] [.dat (.list (xs.map d))] rfl (fun _ => by rw [List.length_map] at h2; omega) s1 (walk_lst rfl rfl)⟩
theorem i_tup {o : Option (List α)} (h : EX X (dT d) e ρ L o) : IX X tg e ρ L anyL true (fun x => .dat (d x)) o := by
  obtain ⟨t, q, h⟩ := h
  refine ⟨_, pi_tup q, fun xs hx B F0 σ H vs ds R s k => h xs hx B F0 σ H vs ds _ s fun v H1 s1 => ?_⟩
  obtain ⟨a, us, rfl, h1, h2, h2', h3⟩ := s1.tup1
  exact ⟨a, rfl, ⟨us, SqT.of h1⟩, k _ H1 [.ref a] [.dat (.tuple (xs.map d))] rfl (fun _ => by rw [List.length_map] at h2; omega) s1 (walk_tup rfl rfl)⟩
theorem i_own {p : Addr} {xs : List α} (h : ES X e ρ L (some (.ptr p))) (m : (p, OD.lst ((xs.map d).map .dat)) ∈ L) : IX X tg e ρ L (fun L => (p, OD.lst ((xs.map d).map .dat)) ∈ L) true (fun x => .dat (d x)) (some xs) := by
  obtain ⟨t, q, h⟩ := h
  refine ⟨_, pi_list q, fun ys hy B F0 σ H vs ds R s k => h _ rfl B F0 σ H vs ds _ s fun v H1 s1 => ?_⟩
  cases hy
  have e := s1.isPtr
  obtain ⟨us, h1, h2, h2', _⟩ := s1.pop.own1 m
  exact ⟨p, e, ⟨us, SqL.of h1⟩, k _ H1 [] [] rfl (fun _ => by rw [List.length_map, List.length_map] at h2; omega) s1.pop walk_own⟩
theorem i_scr {ns : List Int} (h : ES X e ρ L (some (.scr ns))) : IX X tg e ρ L anyL false (fun x => .dat (dI x)) (some ns) := by
  obtain ⟨t, q, h⟩ := h
  refine ⟨_, pi_list q, fun ys hy B F0 σ H vs ds R s k => h _ rfl B F0 σ H vs ds _ s fun v H1 s1 => ?_⟩
  cases hy
  obtain ⟨F, ok, sl, sv⟩ := id s1
  cases sv with
  | cons r t =>
    obtain ⟨a, rfl, hq⟩ := r
    refine ⟨a, rfl, ⟨_, ok.le.seq hq⟩, k _ H1 [.ref a] [.scr ns] rfl (fun z => by cases z) s1 ?_⟩
    intro B F0 ρ L σ H vs ds i _ s
    obtain ⟨F, ok, sl, sv⟩ := id s
    cases sv with
    | cons r t =>
      obtain ⟨a', e, hq⟩ := r
      cases e
      have hq' := ok.le.seq hq
      refine ⟨fun e => ⟨_, hq', by simp [e]⟩, fun x hx => ?_⟩
      have hx' : (ns.map V.int)[i]? = some (.int x) := by simp [hx]
      refine ⟨⟨_, _, hq', hx'⟩, fun z H' hz => ?_⟩
      obtain ⟨rfl, hz⟩ := hz
      have e2 := hz _ hq'
      rw [hx'] at e2
      cases e2
      exact s.int
theorem bigI_iff {a : Int} (h : bigI a = true) : -(2 ^ 62) ≤ a ∧ a < 2 ^ 62 := by
  unfold bigI at h
  simp only [Bool.and_eq_true, decide_eq_true_eq] at h
  exact h
theorem rngO_some {a b : Int} {xs : List Int} (h : rngO a b = some xs) : bigI a = true ∧ bigI b = true ∧ xs = rng a b := by
  unfold rngO at h
  split at h
  · rename_i c
    rw [Bool.and_eq_true] at c
    cases h
    exact ⟨c.1, c.2, rfl⟩
  · cases h
theorem rngL_some {a b : Int} {xs : List Int} (h : rngL a b = some xs) : bigI a = true ∧ bigI b = true ∧ (b - a).toNat ≤ 16777216 ∧ xs = rng a b := by
  unfold rngL at h
  split at h
  · rename_i c
    cases h
    exact ⟨c.1.1, c.1.2, c.2, rfl⟩
  · cases h
theorem rng_length (a b : Int) : (rng a b).length = (b - a).toNat := by unfold rng; simp
theorem i_range {o : Option Int} (h : EX X dI e ρ L o) (hm : X.mg "range" = none) (hg : Gl X "range" := by rfl) (hs : starEach [e] X.env = [(false, eval e X.env)] := by rfl) (hs2 : starEach [e] X.env = (false, eval e X.env) :: starEach [] X.env := by rfl) : IX X tg (.Call (.Name "range" p) [e] [] pos) ρ L anyL false (fun x => .dat (dI x)) (o.bind fun n => rngO 0 n) := by
  obtain ⟨t, q, h⟩ := h
  refine ⟨_, pi_range1 hg hm (pa_cons q pa_nil hs2) hs, fun xs hx B F0 σ H vs ds R s k => ?_⟩
  obtain ⟨n, hn, hx⟩ := Option.bind_eq_some_iff.mp hx
  obtain ⟨_, h2, h3⟩ := rngO_some hx
  refine h n hn B F0 σ H vs ds _ s fun v H1 s1 => ?_
  refine ⟨n, by rw [s1.isInt], (bigI_iff h2).1, (bigI_iff h2).2, k _ H1 [] [] rfl (fun z => by cases z) s1.pop (walk_rng ?_)⟩
  rw [h3]
  unfold rng
  rw [Int.sub_zero]
theorem i_range2 {o o' : Option Int} (h : EX X dI a ρ L o) (h' : EX X dI b ρ L o') (hm : X.mg "range" = none) (hg : Gl X "range" := by rfl) (hs : starEach [a, b] X.env = [(false, eval a X.env), (false, eval b X.env)] := by rfl) (hs2 : starEach [b] X.env = [(false, eval b X.env)] := by rfl)
    (hs3 : starEach [a, b] X.env = (false, eval a X.env) :: starEach [b] X.env := by rfl) (hs4 : starEach [b] X.env = (false, eval b X.env) :: starEach [] X.env := by rfl) : IX X tg (.Call (.Name "range" p) [a, b] [] pos) ρ L anyL false (fun x => .dat (dI x)) (o.bind fun n => o'.bind fun m => rngO n m) := by
  obtain ⟨t, q, h⟩ := h
  obtain ⟨t', q', h'⟩ := h'
  refine ⟨_, pi_range2 hg hm (pa_cons q (pa_cons q' pa_nil hs4) hs3) hs hs2, fun xs hx B F0 σ H vs ds R s k => ?_⟩
  obtain ⟨n, hn, hx⟩ := Option.bind_eq_some_iff.mp hx
  obtain ⟨m, hm, hx⟩ := Option.bind_eq_some_iff.mp hx
  obtain ⟨h1, h2, h3⟩ := rngO_some hx
  refine h n hn B F0 σ H vs ds _ s fun v H1 s1 => h' m hm B F0 σ H1 _ _ _ s1 fun u H2 s2 => ?_
  refine ⟨n, m, by rw [s2.isInt, s2.pop.isInt], ⟨(bigI_iff h1).1, (bigI_iff h1).2, (bigI_iff h2).1, (bigI_iff h2).2⟩, k _ H2 [] [] rfl (fun z => by cases z) s2.pop.pop (walk_rng ?_)⟩
  rw [h3]
  all_goals rfl
/-- the same where the number of turns is to be a list's length -/
theorem IX.lim {o : Option (List Int)} {o' : Option (List Int)} (h : IX X tg e ρ L anyL false (fun x => .dat (dI x)) o) (q : ∀ xs, o' = some xs → o = some xs ∧ xs.length ≤ 16777216) : IX X tg e ρ L anyL true (fun x => .dat (dI x)) o' := by
  obtain ⟨t, p, h⟩ := h
  refine ⟨t, p, fun xs hx B F0 σ H vs ds R s k => ?_⟩
  obtain ⟨h1, h2⟩ := q xs hx
  exact h xs h1 B F0 σ H vs ds R s fun J H1 pv pd e1 _ s1 w => k J H1 pv pd e1 (fun _ => Nat.le_trans h2 (by decide)) s1 w
theorem rngL_lim {a b : Int} {xs : List Int} (h : rngL a b = some xs) : rngO a b = some xs ∧ xs.length ≤ 16777216 := by
  obtain ⟨h1, h2, h3, rfl⟩ := rngL_some h
  exact ⟨by unfold rngO; rw [h1, h2]; exact if_pos rfl, by rw [rng_length]; exact h3⟩
theorem i_rangeL {o : Option Int} (h : EX X dI e ρ L o) (hm : X.mg "range" = none) (hg : Gl X "range" := by rfl) (hs : starEach [e] X.env = [(false, eval e X.env)] := by rfl) (hs2 : starEach [e] X.env = (false, eval e X.env) :: starEach [] X.env := by rfl) : IX X tg (.Call (.Name "range" p) [e] [] pos) ρ L anyL true (fun x => .dat (dI x)) (o.bind fun n => rngL 0 n) :=
  (i_range h hm hg hs hs2).lim fun xs hx => by
    obtain ⟨n, hn, hx⟩ := Option.bind_eq_some_iff.mp hx
    exact ⟨by rw [hn]; exact (rngL_lim hx).1, (rngL_lim hx).2⟩
theorem i_range2L {o o' : Option Int} (h : EX X dI a ρ L o) (h' : EX X dI b ρ L o') (hm : X.mg "range" = none) (hg : Gl X "range" := by rfl) (hs : starEach [a, b] X.env = [(false, eval a X.env), (false, eval b X.env)] := by rfl) (hs2 : starEach [b] X.env = [(false, eval b X.env)] := by rfl)
    (hs3 : starEach [a, b] X.env = (false, eval a X.env) :: starEach [b] X.env := by rfl) (hs4 : starEach [b] X.env = (false, eval b X.env) :: starEach [] X.env := by rfl) : IX X tg (.Call (.Name "range" p) [a, b] [] pos) ρ L anyL true (fun x => .dat (dI x)) (o.bind fun n => o'.bind fun m => rngL n m) :=
  (i_range2 h h' hm hg hs hs2 hs3 hs4).lim fun xs hx => by
    obtain ⟨n, hn, hx⟩ := Option.bind_eq_some_iff.mp hx
    obtain ⟨m, hm, hx⟩ := Option.bind_eq_some_iff.mp hx
    exact ⟨by rw [hn, hm]; exact (rngL_lim hx).1, (rngL_lim hx).2⟩
/-- reversed(..) -/
theorem i_revL {o : Option (List α)} (h : EX X (dL d) e ρ L o) (hm : X.mg "reversed" = none) (hg : Gl X "reversed" := by rfl) (hs : starEach [e] X.env = (false, eval e X.env) :: starEach [] X.env := by rfl) : IX X tg (.Call (.Name "reversed" p) [e] [] pos) ρ L anyL true (fun x => .dat (d x)) (o.map List.reverse) := by
  obtain ⟨t, q, h⟩ := h
  refine ⟨_, RT.pi_revA hg hm q hs, fun xs hx B F0 σ H vs ds R s k => ?_⟩
  obtain ⟨ys, hy, rfl⟩ := Option.map_eq_some_iff.mp hx
  refine h ys hy B F0 σ H vs ds _ s fun v H1 s1 => ?_
  obtain ⟨a, us, rfl, h1, h2, h2', h3⟩ := s1.lst1
  rw [List.length_map] at h2
  refine ⟨a, us, rfl, .inl ⟨SqL.of h1, ?_⟩⟩
  rw [h2]
  exact k _ H1 [.ref a] [.dat (.list (ys.map d))] rfl (fun _ => by rw [List.length_reverse]; omega) s1 (walk_revL rfl rfl)
theorem i_revT {o : Option (List α)} (h : EX X (dT d) e ρ L o) (hm : X.mg "reversed" = none) (hg : Gl X "reversed" := by rfl) (hs : starEach [e] X.env = (false, eval e X.env) :: starEach [] X.env := by rfl) : IX X tg (.Call (.Name "reversed" p) [e] [] pos) ρ L anyL true (fun x => .dat (d x)) (o.map List.reverse) := by
  obtain ⟨t, q, h⟩ := h
  refine ⟨_, RT.pi_revA hg hm q hs, fun xs hx B F0 σ H vs ds R s k => ?_⟩
  obtain ⟨ys, hy, rfl⟩ := Option.map_eq_some_iff.mp hx
  refine h ys hy B F0 σ H vs ds _ s fun v H1 s1 => ?_
  obtain ⟨a, us, rfl, h1, h2, h2', h3⟩ := s1.tup1
  rw [List.length_map] at h2
  refine ⟨a, us, rfl, .inr ⟨SqT.of h1, ?_⟩⟩
  rw [h2]
  exact k _ H1 [.ref a] [.dat (.tuple (ys.map d))] rfl (fun _ => by rw [List.length_reverse]; omega) s1 (walk_revT rfl rfl)
/-- enumerate(..) of a list -/
theorem i_enum {o : Option (List α)} {elts : List Expr} {kk : Nat} (h : EX X (dL d) e ρ L o) (hm : X.mg "enumerate" = none) (hg : Gl X "enumerate" := by rfl) (hs : starEach [e] X.env = [(false, eval e X.env)] := by rfl) (hs2 : starEach [e] X.env = (false, eval e X.env) :: starEach [] X.env := by rfl) :
    IX X (.Tuple elts kk tpos) (.Call (.Name "enumerate" p) [e] [] pos) ρ L anyL true (fun x => .dat (dP dI d x)) (o.map enumI) := by
  obtain ⟨t, q, h⟩ := h
  refine ⟨_, pi_enum hg hm (pa_cons q pa_nil hs2) hs, fun xs hx B F0 σ H vs ds R s k => ?_⟩
  obtain ⟨ys, hy, rfl⟩ := Option.map_eq_some_iff.mp hx
  refine h ys hy B F0 σ H vs ds _ s fun v H1 s1 => ?_
  obtain ⟨a, us, rfl, h1, h2, h2', h3⟩ := s1.lst1
  rw [List.length_map] at h2
  exact ⟨a, us, rfl, SqL.of h1, k _ H1 [.ref a] [.dat (.list (ys.map d))] rfl (fun _ => by rw [enumI_length]; omega) s1 (walk_enum rfl rfl)⟩
end
end Mir
namespace Mir
open PySem L2

/-! ### mirrors of comprehensions -/
def mapO {α β : Type} (k : α → Option β) : List α → Option (List β)
  | [] => some []
  | x :: xs => (k x).bind fun y => (mapO k xs).map (y :: ·)
def filtO {α β : Type} (c : α → Option Bool) (k : α → Option β) : List α → Option (List β)
  | [] => some []
  | x :: xs => (c x).bind fun b => if b then (k x).bind fun y => (filtO c k xs).map (y :: ·) else filtO c k xs
def mapW {α β W : Type} (k : α → W → Option (β × W)) : List α → W → Option (List β × W)
  | [], w => some ([], w)
  | x :: xs, w => (k x w).bind fun y => (mapW k xs y.2).map fun r => (y.1 :: r.1, r.2)
def filtW {α β W : Type} (c : α → W → Option (Bool × W)) (k : α → W → Option (β × W)) : List α → W → Option (List β × W)
  | [], w => some ([], w)
  | x :: xs, w => (c x w).bind fun b => if b.1 then (k x b.2).bind fun y => (filtW c k xs y.2).map fun r => (y.1 :: r.1, r.2) else filtW c k xs b.2
theorem mapW_filt {α β W : Type} (k : α → W → Option (β × W)) : ∀ (xs : List α) (w : W), mapW k xs w = filtW (fun _ w => some (true, w)) k xs w
  | [], w => rfl
  | x :: xs, w => by
    show (k x w).bind _ = (some (true, w)).bind _
    rw [Option.bind_some, if_pos rfl]
    congr 1
    funext y
    rw [mapW_filt k xs]
theorem filtO_W {α β : Type} (c : α → Option Bool) (k : α → Option β) : ∀ (xs : List α), filtW (fun x (w : Unit) => (c x).map fun b => (b, w)) (fun x w => (k x).map fun y => (y, w)) xs () = (filtO c k xs).map fun ys => (ys, ())
  | [] => rfl
  | x :: xs => by
    simp only [filtW, filtO]
    cases c x with
    | none => rfl
    | some b =>
      simp only [Option.map_some, Option.bind_some]
      cases b with
      | false => simp only [Bool.false_eq_true, if_false]; exact filtO_W c k xs
      | true =>
        simp only [if_true]
        cases k x with
        | none => rfl
        | some y =>
          simp only [Option.map_some, Option.bind_some]
          rw [filtO_W c k xs]
          cases filtO c k xs <;> rfl
theorem mapO_W {α β : Type} (k : α → Option β) : ∀ (xs : List α), mapW (fun x (w : Unit) => (k x).map fun y => (y, w)) xs () = (mapO k xs).map fun ys => (ys, ())
  | [] => rfl
  | x :: xs => by
    simp only [mapW, mapO]
    cases k x with
    | none => rfl
    | some y =>
      simp only [Option.map_some, Option.bind_some]
      rw [mapO_W k xs]
      cases mapO k xs <;> rfl

/-! ### slots forgotten, slots kept over a block -/
def wipeE (ρ : Env) : List Nat → Env
  | [] => ρ
  | v :: vs => (wipeE ρ vs).set v none
theorem wipe_get {σ : L2.St} {i : Nat} : ∀ {vs : List Nat}, (wipe σ vs)[i]? = if i ∈ vs then (σ[i]?).map (fun _ => none) else σ[i]?
  | [] => by simp [wipe]
  | v :: vs => by
    unfold wipe
    by_cases h : v = i
    · subst h
      rw [if_pos (by simp)]
      have hl : (wipe σ vs).length = σ.length := wipe_length σ vs
      rw [List.getElem?_set]
      simp only [if_true, hl]
      by_cases hlt : v < σ.length
      · rw [if_pos hlt, List.getElem?_eq_getElem hlt]; rfl
      · rw [if_neg hlt, List.getElem?_eq_none (by omega)]; rfl
    · rw [List.getElem?_set_ne h, wipe_get]
      have : (i ∈ v :: vs) ↔ i ∈ vs := by
        rw [List.mem_cons]
        exact ⟨fun q => q.resolve_left fun e => h e.symm, .inr⟩
      simp only [this]
theorem wipe_set {σ : L2.St} {i : Nat} {x : Option V} {vs : List Nat} (h : i ∈ vs) : wipe (σ.set i x) vs = wipe σ vs := by
  apply List.ext_getElem?
  intro j
  rw [wipe_get, wipe_get]
  by_cases hj : j ∈ vs
  · rw [if_pos hj, if_pos hj, List.getElem?_set]
    by_cases e : i = j
    · subst e
      simp only [if_true]
      by_cases hlt : i < σ.length
      · rw [if_pos hlt, List.getElem?_eq_getElem hlt]; rfl
      · rw [if_neg hlt, List.getElem?_eq_none (by omega)]
    · rw [if_neg e]
  · have e : i ≠ j := fun z => hj (z ▸ h)
    rw [if_neg hj, if_neg hj, List.getElem?_set_ne e]
def liveV : L2.St → Env → List V
  | some v :: σ, some _ :: ρ => v :: liveV σ ρ
  | some _ :: σ, none :: ρ => liveV σ ρ
  | none :: σ, some _ :: ρ => liveV σ ρ
  | none :: σ, none :: ρ => liveV σ ρ
  | [], _ => []
  | _ :: _, [] => []
def liveS : L2.St → Env → List Sl
  | some _ :: σ, some s :: ρ => s :: liveS σ ρ
  | some _ :: σ, none :: ρ => liveS σ ρ
  | none :: σ, some _ :: ρ => liveS σ ρ
  | none :: σ, none :: ρ => liveS σ ρ
  | [], _ => []
  | _ :: _, [] => []
section
variable {K : PySem.W.Frag} {F F' F0 B H : Hp} {L : Ow} {σ σ' : L2.St} {ρ ρ' : Env} {vs : List V} {ds : List Sl}
theorem live_of {σ : L2.St} {ρ : Env} (h : Paired (SlR K F) σ ρ) : Paired (SvR K F) (liveV σ ρ) (liveS σ ρ) := by
  induction h with
  | nil => exact .nil
  | @cons a b σ ρ r t ih =>
    cases a <;> cases b <;> simp only [liveV, liveS]
    · exact ih
    · exact r.elim
    · exact ih
    · exact .cons r ih
theorem of_live {σ : L2.St} {ρ : Env} (h : Paired (SlR K F) σ ρ) : Paired (SvR K F') (liveV σ ρ) (liveS σ ρ) → Paired (SlR K F') σ ρ := by
  induction h with
  | nil => exact fun _ => .nil
  | @cons a b σ ρ r t ih =>
    cases a <;> cases b <;> simp only [liveV, liveS]
    · exact fun q => .cons trivial (ih q)
    · exact r.elim
    · exact fun q => .cons trivial (ih q)
    · intro q
      cases q with
      | cons r' t' => exact .cons r' (ih t')
theorem live_len : ∀ {σ : L2.St} {ρ : Env}, Paired (SlR K F) σ ρ → (liveV σ ρ).length = (liveS σ ρ).length := fun h => Paired.length (live_of h)
theorem St.slots (h : St K B F0 ρ L σ H vs ds) : ∃ F, Paired (SlR K F) σ ρ := let ⟨F, _, a, _⟩ := h; ⟨F, a⟩
/-- the slots' values are held while another block runs -/
theorem St.hold (h : St K B F0 ρ L σ H vs ds) : St K B F0 ρ L σ H (liveV σ ρ ++ vs) (liveS σ ρ ++ ds) :=
  let ⟨F, k, a, b⟩ := h; ⟨F, k, a, pr_app (live_of a) b⟩
theorem St.back (q : ∃ F, Paired (SlR K F) σ ρ) (h : St K B F0 ρ' L σ' H (liveV σ ρ ++ vs) (liveS σ ρ ++ ds)) : St K B F0 ρ L σ H vs ds := by
  obtain ⟨F1, q⟩ := q
  obtain ⟨F, k, a, b⟩ := h
  obtain ⟨b1, b2⟩ := pr_split (live_len q) b
  exact ⟨F, k, of_live q b1, b2⟩
theorem pr_wipe : ∀ (ws : List Nat) {σ : L2.St} {ρ : Env}, Paired (SlR K F) σ ρ → Paired (SlR K F) (wipe σ ws) (wipeE ρ ws)
  | [], _, _, h => h
  | w :: ws, _, _, h => pr_set (show SlR K F none none from trivial) w (pr_wipe ws h)
theorem St.wipe (ws : List Nat) (h : St K B F0 ρ L σ H vs ds) : St K B F0 (wipeE ρ ws) L (L2.wipe σ ws) H vs ds :=
  let ⟨F, k, a, b⟩ := h; ⟨F, k, pr_wipe ws a, b⟩
end

/-! ### the reading of a comprehension -/
section
variable {K : PySem.W.Frag} {α β W : Type}
theorem lc_read {wi : TI} {g : TG} {tt : TT} {te : TE} {ws : List Nat} {ρ : Env} {ρb : α → Env} {Lf : W → Ow} {w0 wf : W} {PL : Ow → Prop} {en : α → Sl} {xs : List α} {ys : List β} {d : β → PyData} {c : α → W → Option (Bool × W)} {k : α → W → Option (β × W)}
    {B F0 : Hp} {σ : L2.St} {H : Hp} {vs : List V} {ds : List Sl} {Q : VK}
    (hwi : ∀ R : It → Hp → Prop, (∀ J H1 pv pd, pv.length = pd.length → xs.length ≤ sizeLine → St K B F0 ρ (Lf w0) σ H1 (pv ++ vs) (pd ++ ds) → Walk K J pv pd PL en xs → R J H1) → wi σ H R)
    (hPL : ∀ w M, PL (Lf w ++ M))
    (hg : ∀ x w M σ H v vs ds Q, St K B F0 (wipeE ρ ws) (Lf w ++ M) σ H (v :: vs) (en x :: ds) → (∀ σ' H', wipe σ' ws = wipe σ ws → St K B F0 (ρb x) (Lf w ++ M) σ' H' vs ds → Q σ' H') → g v σ H Q)
    (ht : ∀ x w b w', c x w = some (b, w') → ∀ M σ H vs ds Q, St K B F0 (ρb x) (Lf w ++ M) σ H vs ds → (∀ H', St K B F0 (ρb x) (Lf w' ++ M) σ H' vs ds → Q b H') → tt σ H Q)
    (he : ∀ x w a w', k x w = some (a, w') → ∀ M σ H vs ds Q, St K B F0 (ρb x) (Lf w ++ M) σ H vs ds → (∀ v H', St K B F0 (ρb x) (Lf w' ++ M) σ H' (v :: vs) (.dat (d a) :: ds) → Q v H') → te σ H Q)
    (hm : filtW c k xs w0 = some (ys, wf)) (hS : ∃ F, Paired (SlR K F) σ ρ)
    (hQ : ∀ D H', St K B F0 ρ (Lf wf ++ [(D, .lst ((ys.map d).map .dat))]) σ H' (.ref D :: vs) (.ptr D :: ds) → Q (.ref D) H') : tLc wi g tt te ws σ H Q := by
  refine hwi _ fun J H1 pv pd hl hz s1 w => ?_
  intro D hD
  refine ⟨fun i m H => m = xs.length - i ∧ i ≤ xs.length ∧ ∃ (acc rest : List β) (w : W), filtW c k (xs.drop i) w = some (rest, wf) ∧ ys = acc ++ rest ∧ acc.length ≤ i ∧ St K B F0 ρ (Lf w ++ [(D, .lst ((acc.map d).map .dat))]) σ H (pv ++ vs) (pd ++ ds),
    ⟨_, rfl, Nat.zero_le _, [], ys, w0, hm, rfl, Nat.zero_le _, ?_⟩, ?_⟩
  · exact (St.newLst (us := []) (xs := []) s1 rfl hD (Nat.zero_le _)).pop
  rintro i m H2 ⟨rfl, hi, acc, rest, w2, hr, ey, ha, s2⟩
  obtain ⟨w3, w4⟩ := w B F0 _ _ σ H2 vs ds i (hPL w2 _) s2
  by_cases hlt : i < xs.length
  · obtain ⟨go, yl⟩ := w4 xs[i] (List.getElem?_eq_getElem hlt)
    rw [List.drop_eq_getElem_cons hlt] at hr
    obtain ⟨⟨b, w5⟩, hb, hr⟩ := Option.bind_eq_some_iff.mp hr
    refine .inr ⟨go, fun H => ∃ (acc rest : List β) (w : W), filtW c k (xs.drop (i + 1)) w = some (rest, wf) ∧ ys = acc ++ rest ∧ acc.length ≤ i + 1 ∧ St K B F0 ρ (Lf w ++ [(D, .lst ((acc.map d).map .dat))]) σ H (pv ++ vs) (pd ++ ds),
      fun H' q => ⟨xs.length - (i + 1), by omega, rfl, hlt, q⟩, fun y H' hy => ?_⟩
    have s3 := yl y H' hy
    have s4 : St K B F0 ρ (Lf w2 ++ [(D, .lst ((acc.map d).map .dat))]) σ H' (y :: (liveV σ ρ ++ (pv ++ vs))) (en xs[i] :: (liveS σ ρ ++ (pd ++ ds))) := by
      obtain ⟨F, k', a, b'⟩ := s3
      cases b' with
      | cons r t => exact ⟨F, k', a, .cons r (pr_app (live_of a) t)⟩
    refine hg xs[i] w2 _ _ H' y _ _ _ (s4.wipe ws) fun σ5 H5 e5 s5 => ⟨?_, ?_⟩
    · rw [e5]
      apply List.ext_getElem?
      intro j
      simp only [wipe_get]
      by_cases hj : j ∈ ws
      · simp only [if_pos hj]
        cases σ[j]? <;> rfl
      · simp only [if_neg hj]
    · refine ht xs[i] w2 b w5 hb _ σ5 H5 _ _ _ s5 fun H6 s6 => ?_
      cases b with
      | false =>
        refine iteF ⟨acc, rest, w5, by simpa using hr, ey, by omega, s6.back hS⟩
      | true =>
        rw [if_pos rfl] at hr
        obtain ⟨⟨a, w7⟩, hk, hr⟩ := Option.bind_eq_some_iff.mp hr
        obtain ⟨⟨r2, w8⟩, hr2, er⟩ := Option.map_eq_some_iff.mp hr
        injection er with er1 er2
        subst er2
        refine iteT (he xs[i] w5 a w7 hk _ σ5 H6 _ _ _ s6 fun v H7 s7 => ?_)
        have m7 : (D, OD.lst ((acc.map d).map .dat)) ∈ Lf w7 ++ [(D, OD.lst ((acc.map d).map .dat))] := List.mem_append_right _ (by simp)
        obtain ⟨us, h1, h2, _, _⟩ := s7.own1 m7
        have h2' : us.length = acc.length := by rw [h2, List.length_map, List.length_map]
        refine ⟨us, h1, by omega, acc ++ [a], r2, w7, hr2, ?_, ?_, ?_⟩
        · rw [ey, ← er1, List.append_assoc]; rfl
        · rw [List.length_append]
          exact Nat.add_le_add_right ha 1
        · obtain ⟨F, k', sl, sv⟩ := s7
          cases sv with
          | cons r t =>
            obtain ⟨_, _, us', h1', q⟩ := k'.own _ m7
            have e : us' = us := by
              have e := h1'.symm.trans h1
              injection e with e
              injection e
            subst e
            have k2 := Ok.write (L2 := []) (d' := OD.lst (((acc ++ [a]).map d).map .dat)) (o := .lst (us' ++ [v])) k' (by show (us' ++ [v]).length ≤ sizeLine; rw [List.length_append]; show us'.length + 1 ≤ sizeLine; omega)
              ⟨_, upd_same, by rw [List.map_append, List.map_append]; exact pr_app q (.cons r .nil)⟩
            exact St.back hS ⟨F, k2, sl, t⟩
  · have e : i = xs.length := by omega
    have e2 : xs.drop i = [] := by rw [e]; exact List.drop_length
    rw [e2] at hr
    have e3 : rest = [] ∧ w2 = wf := by
      have : (([] : List β), w2) = (rest, wf) := by simpa [filtW] using hr
      injection this with a b
      exact ⟨a.symm, b⟩
    obtain ⟨rfl, rfl⟩ := e3
    rw [List.append_nil] at ey
    subst ey
    refine .inl ⟨w3 e, hQ D H2 ?_⟩
    have s5 : St K B F0 ρ (Lf w2 ++ [(D, .lst ((ys.map d).map .dat))]) σ H2 vs ds := s2.stack fun F r => (pr_split hl r).2
    exact s5.push fun F => rfl
end

/-! ### targets of a comprehension -/
section
variable {X : Cx} {α β γ W : Type} {e tg iter elt c : Expr} {ρ ρ' : Env} {L : Ow} {pos : Pos} {d : α → PyData}
/-- .. that stores into the slots ws alone -/
def GY (X : Cx) (tg : Expr) (ρ : Env) (s : Sl) (ρ' : Env) (ws : List Nat) : Prop :=
  ∃ g, PG X tg g ∧ ∀ L B F0 σ H v vs ds Q, St X.K B F0 ρ L σ H (v :: vs) (s :: ds) → (∀ σ' H', wipe σ' ws = wipe σ ws → St X.K B F0 ρ' L σ' H' vs ds → Q σ' H') → g v σ H Q
def GYs (X : Cx) (ts : List Expr) (ρ : Env) (ss : List Sl) (ρ' : Env) (ws : List Nat) : Prop :=
  ∃ g, PGs X ts g ∧ ∀ L B F0 σ H us vs ds Q, us.length = ss.length → St X.K B F0 ρ L σ H (us ++ vs) (ss ++ ds) → (∀ σ' H', wipe σ' ws = wipe σ ws → St X.K B F0 ρ' L σ' H' vs ds → Q σ' H') → g us σ H Q
theorem y_name (i : Nat) {x : Str} {s : Sl} {ws : List Nat} (hN : X.N.Nodup) (hi : X.N[i]? = some x := by rfl) (hx : Loc X.env.scope x := by first | exact Or.inl rfl | exact Or.inr rfl) (hf : X.fn x = true ∨ X.env.scope.names.lookup x = some .local := by first | exact .inl rfl | exact .inr rfl) (hw : i ∈ ws := by decide) : GY X (.Name x pos) ρ s (ρ.set i (some s)) ws :=
  ⟨_, pg_name hN hi hx hf, fun L B F0 σ H v vs ds Q st k => k _ _ (wipe_set hw) (st.store i)⟩
theorem ys_nil {ws : List Nat} : GYs X [] ρ [] ρ ws := ⟨_, pgs_nil, fun L B F0 σ H us vs ds Q e s k => by
  cases us with
  | nil => exact ⟨rfl, k σ H rfl s⟩
  | cons u r => exact absurd e (by simp)⟩
theorem ys_cons {t : Expr} {ts : List Expr} {s : Sl} {ss : List Sl} {ρ1 ρ2 : Env} {ws : List Nat} (h : GY X t ρ s ρ1 ws) (h' : GYs X ts ρ1 ss ρ2 ws) (hs : (assignEach (t :: ts) X.env).map (·.2) = assign t X.env :: (assignEach ts X.env).map (·.2) := by rfl) : GYs X (t :: ts) ρ (s :: ss) ρ2 ws := by
  obtain ⟨g, p, h⟩ := h
  obtain ⟨g', p', h'⟩ := h'
  refine ⟨_, pgs_cons p p' hs, fun L B F0 σ H us vs ds Q e st k => ?_⟩
  cases us with
  | nil => exact absurd e (by simp)
  | cons u r => exact ⟨u, r, rfl, h L B F0 σ H u (r ++ vs) (ss ++ ds) _ st fun σ1 H1 e1 s1 => h' L B F0 σ1 H1 r vs ds Q (by simpa using e) s1 fun σ2 H2 e2 s2 => k σ2 H2 (e2.trans e1) s2⟩
theorem y_tup {es : List Expr} {k : Nat} {xs : List PyData} {ws : List Nat} (hc : X.calm = true) (h : GYs X es ρ (xs.map .dat) ρ' ws) (hn : (assignEach es X.env).length = xs.length := by rfl) (hst : (assignEach es X.env).findIdx? (·.1) = none := by rfl) : GY X (.Tuple es k pos) ρ (.dat (.tuple xs)) ρ' ws := by
  obtain ⟨g, p, h⟩ := h
  refine ⟨_, pg_tup hc p hn hst, fun L B F0 σ H v vs ds Q s k => ?_⟩
  obtain ⟨a, us, rfl, h1, h2, _, h3⟩ := s.tup1
  have s3 := h3.stack (ws := us ++ vs) (es := xs.map .dat ++ ds) fun F r => by
    obtain ⟨r1, r2⟩ := pr_split (by rw [List.length_map]; exact h2) r
    exact pr_app r1 (by cases r2 with | cons _ t => exact t)
  exact ⟨a, us, rfl, SqT.of h1, h2, h L B F0 σ H us vs ds Q (by rw [List.length_map]; exact h2) s3 k⟩

/-! ### parts that hold in every block -/
abbrev Bk (X : Cx) (scope : Scope) (P : Cx → Prop) : Prop := ∀ (s : Shared) (H : Hp) (C : Addr) (cl : List (Str × Addr)) (fp : List Addr), P (X.blk s H scope (compEnvC scope cl C X.env) fp)
theorem GY.bk {scope : Scope} {ρf' : α → Env} {sf : α → Sl} {ws : List Nat} (h : Bk X scope fun X => ∀ x, GY X tg ρ (sf x) (ρf' x) ws) :
    ∃ g, Bk X scope (fun X => PG X tg g) ∧ ∀ x L B F0 σ H v vs ds Q, St X.K B F0 ρ L σ H (v :: vs) (sf x :: ds) → (∀ σ' H', wipe σ' ws = wipe σ ws → St X.K B F0 (ρf' x) L σ' H' vs ds → Q σ' H') → g v σ H Q := by
  refine ⟨fun v σ H Q => ∃ x L B F0 vs ds, St X.K B F0 ρ L σ H (v :: vs) (sf x :: ds) ∧ ∀ σ' H', wipe σ' ws = wipe σ ws → St X.K B F0 (ρf' x) L σ' H' vs ds → Q σ' H', fun s1 H1 C cl fp => ⟨fun pins s σ H v u Q I r h2 => ?_⟩, fun x L B F0 σ H v vs ds Q q k => ⟨x, L, B, F0, vs, ds, q, k⟩⟩
  obtain ⟨x, L, B, F0, vs, ds, q, k⟩ := h2
  obtain ⟨g, p, h⟩ := h s1 H1 C cl fp x
  exact p.run pins s σ H v u Q I r (h L B F0 σ H v vs ds Q q k)
theorem EM.bk {scope : Scope} {Lf : W → Ow} {ρf : γ → Env} {k : γ → W → Option (α × W)} (h : Bk X scope fun X => ∀ x w M, EM X d e (ρf x) (fun w => Lf w ++ M) w (k x w)) :
    ∃ t, Bk X scope (fun X => PE X e t) ∧ ∀ x w a w', k x w = some (a, w') → ∀ M B F0 σ H vs ds Q, St X.K B F0 (ρf x) (Lf w ++ M) σ H vs ds → (∀ v H', St X.K B F0 (ρf x) (Lf w' ++ M) σ H' (v :: vs) (.dat (d a) :: ds) → Q v H') → t σ H Q := by
  refine ⟨fun σ H Q => ∃ x w a w' M B F0 vs ds, k x w = some (a, w') ∧ St X.K B F0 (ρf x) (Lf w ++ M) σ H vs ds ∧ ∀ v H', St X.K B F0 (ρf x) (Lf w' ++ M) σ H' (v :: vs) (.dat (d a) :: ds) → Q v H', fun s1 H1 C cl fp => ⟨fun pins s σ H Q I h2 => ?_⟩,
    fun x w a w' e M B F0 σ H vs ds Q q g => ⟨x, w, a, w', M, B, F0, vs, ds, e, q, g⟩⟩
  obtain ⟨x, w, a, w', M, B, F0, vs, ds, e, q, g⟩ := h2
  obtain ⟨t, p, h⟩ := h s1 H1 C cl fp x w M
  exact p.run pins s σ H Q I (h a w' e B F0 σ H vs ds Q q g)
theorem TM.bk {scope : Scope} {Lf : W → Ow} {ρf : γ → Env} {k : γ → W → Option (Bool × W)} (h : Bk X scope fun X => ∀ x w M, TM X e (ρf x) (fun w => Lf w ++ M) w (k x w)) :
    ∃ t, Bk X scope (fun X => PT X e t) ∧ ∀ x w a w', k x w = some (a, w') → ∀ M B F0 σ H vs ds Q, St X.K B F0 (ρf x) (Lf w ++ M) σ H vs ds → (∀ H', St X.K B F0 (ρf x) (Lf w' ++ M) σ H' vs ds → Q a H') → t σ H Q := by
  refine ⟨fun σ H Q => ∃ x w a w' M B F0 vs ds, k x w = some (a, w') ∧ St X.K B F0 (ρf x) (Lf w ++ M) σ H vs ds ∧ ∀ H', St X.K B F0 (ρf x) (Lf w' ++ M) σ H' vs ds → Q a H', fun s1 H1 C cl fp => ⟨fun pins s σ H Q I h2 => ?_⟩,
    fun x w a w' e M B F0 σ H vs ds Q q g => ⟨x, w, a, w', M, B, F0, vs, ds, e, q, g⟩⟩
  obtain ⟨x, w, a, w', M, B, F0, vs, ds, e, q, g⟩ := h2
  obtain ⟨t, p, h⟩ := h s1 H1 C cl fp x w M
  exact p.run pins s σ H Q I (h a w' e B F0 σ H vs ds Q q g)
theorem EX.bk {scope : Scope} {ρf : γ → Env} {k : γ → Option α} (h : Bk X scope fun X => ∀ x M, EX X d e (ρf x) (L ++ M) (k x)) : Bk X scope fun X => ∀ x (w : Unit) M, EM X d e (ρf x) (fun _ => L ++ M) w ((k x).map fun a => (a, w)) :=
  fun s H C cl fp x w M => EX.m (Lf := fun _ => L ++ M) (h s H C cl fp x M)
theorem TX.bk {scope : Scope} {ρf : γ → Env} {k : γ → Option Bool} (h : Bk X scope fun X => ∀ x M, TX X e (ρf x) (L ++ M) (k x)) : Bk X scope fun X => ∀ x (w : Unit) M, TM X e (ρf x) (fun _ => L ++ M) w ((k x).map fun a => (a, w)) :=
  fun s H C cl fp x w M => TX.m (Lf := fun _ => L ++ M) (h s H C cl fp x M)

/-! ### the rules -/
/-- a comprehension of one for: its parts, and what its reading comes to -/
def LCA (X : Cx) {α W : Type} (tg iter elt : Expr) (ifs : List Expr) (scope : Scope) (own : List (Str × Nat)) (d : α → PyData) (ρ : Env) (Lf : W → Ow) (w0 : W) (m : Option (List α × W)) : Prop :=
  ∃ wi g tt te, PI X tg iter wi ∧ Bk X scope (fun X => PG X tg g) ∧ Bk X scope (fun X => PTs X ifs tt) ∧ Bk X scope (fun X => PE X elt te) ∧
      ∀ ys wf, m = some (ys, wf) → ∀ B F0 σ H vs ds Q, St X.K B F0 ρ (Lf w0) σ H vs ds → (∀ p H', St X.K B F0 ρ (Lf wf ++ [(p, .lst ((ys.map d).map .dat))]) σ H' (.ref p :: vs) (.ptr p :: ds) → Q (.ref p) H') → tLc wi g tt te (own.map (·.2)) σ H Q
theorem LCA.conv {ifs : List Expr} {scope : Scope} {own : List (Str × Nat)} {Lf : W → Ow} {w0 : W} {m m' : Option (List α × W)} (h : LCA X tg iter elt ifs scope own d ρ Lf w0 m) (q : m = m') : LCA X tg iter elt ifs scope own d ρ Lf w0 m' := q ▸ h
theorem lc_all {scope : Scope} {own : List (Str × Nat)} {ifs : List Expr} {Lf : W → Ow} {w0 : W} {PL : Ow → Prop} {en : γ → Sl} {o : Option (List γ)} {ρb : γ → Env} {cf : γ → W → Option (Bool × W)} {k : γ → W → Option (α × W)}
    (hi : IX X tg iter ρ (Lf w0) PL true en o) (hPL : ∀ w M, PL (Lf w ++ M)) (hg : Bk X scope fun X => ∀ x, GY X tg (wipeE ρ (own.map (·.2))) (en x) (ρb x) (own.map (·.2)))
    (ht : ∃ t, Bk X scope (fun X => PTs X ifs t) ∧ ∀ x w a w', cf x w = some (a, w') → ∀ M B F0 σ H vs ds Q, St X.K B F0 (ρb x) (Lf w ++ M) σ H vs ds → (∀ H', St X.K B F0 (ρb x) (Lf w' ++ M) σ H' vs ds → Q a H') → t σ H Q)
    (he : Bk X scope fun X => ∀ x w M, EM X d elt (ρb x) (fun w => Lf w ++ M) w (k x w)) :
    LCA X tg iter elt ifs scope own d ρ Lf w0 (o.bind fun xs => filtW cf k xs w0) := by
  obtain ⟨wi, pi, hi⟩ := hi
  obtain ⟨g, pg, hg⟩ := GY.bk hg
  obtain ⟨tt, pt, ht⟩ := ht
  obtain ⟨te, pe, he⟩ := EM.bk he
  refine ⟨wi, g, tt, te, pi, pg, pt, pe, fun ys wf hm B F0 σ H vs ds Q s q => ?_⟩
  obtain ⟨xs, hx, hm⟩ := Option.bind_eq_some_iff.mp hm
  exact lc_read (fun R r => hi xs hx B F0 σ H vs ds R s fun J H1 pv pd e z s1 w => r J H1 pv pd e (z rfl) s1 w) hPL (fun x w M σ H v vs ds Q => hg x (Lf w ++ M) B F0 σ H v vs ds Q) (fun x w b w' e M σ H vs ds Q => ht x w b w' e M B F0 σ H vs ds Q) (fun x w a w' e M σ H vs ds Q => he x w a w' e M B F0 σ H vs ds Q) hm s.slots q
/-- with a test; without -/
theorem lm_if {scope : Scope} {own : List (Str × Nat)} {Lf : W → Ow} {w0 : W} {PL : Ow → Prop} {en : γ → Sl} {o : Option (List γ)} {ρb : γ → Env} {cf : γ → W → Option (Bool × W)} {k : γ → W → Option (α × W)}
    (hi : IX X tg iter ρ (Lf w0) PL true en o) (hPL : ∀ w M, PL (Lf w ++ M)) (hg : Bk X scope fun X => ∀ x, GY X tg (wipeE ρ (own.map (·.2))) (en x) (ρb x) (own.map (·.2)))
    (ht : Bk X scope fun X => ∀ x w M, TM X c (ρb x) (fun w => Lf w ++ M) w (cf x w)) (he : Bk X scope fun X => ∀ x w M, EM X d elt (ρb x) (fun w => Lf w ++ M) w (k x w)) :
    LCA X tg iter elt [c] scope own d ρ Lf w0 (o.bind fun xs => filtW cf k xs w0) := by
  obtain ⟨tt, pt, ht⟩ := TM.bk ht
  exact lc_all (ifs := [c]) hi hPL hg ⟨tt, fun s H C cl fp => pts_one (pt s H C cl fp), ht⟩ he
theorem lm_no {scope : Scope} {own : List (Str × Nat)} {Lf : W → Ow} {w0 : W} {PL : Ow → Prop} {en : γ → Sl} {o : Option (List γ)} {ρb : γ → Env} {k : γ → W → Option (α × W)}
    (hi : IX X tg iter ρ (Lf w0) PL true en o) (hPL : ∀ w M, PL (Lf w ++ M)) (hg : Bk X scope fun X => ∀ x, GY X tg (wipeE ρ (own.map (·.2))) (en x) (ρb x) (own.map (·.2)))
    (he : Bk X scope fun X => ∀ x w M, EM X d elt (ρb x) (fun w => Lf w ++ M) w (k x w)) :
    LCA X tg iter elt [] scope own d ρ Lf w0 (o.bind fun xs => mapW k xs w0) := by
  refine (lc_all (ifs := []) (cf := fun _ w => some (true, w)) hi hPL hg ⟨_, fun s H C cl fp => pts_nil, fun x w a w' e M B F0 σ H vs ds Q s q => by cases e; exact q H s⟩ he).conv ?_
  congr 1
  funext xs
  exact (mapW_filt k xs w0).symm
theorem lp_if {scope : Scope} {own : List (Str × Nat)} {PL : Ow → Prop} {en : γ → Sl} {o : Option (List γ)} {ρb : γ → Env} {cf : γ → Option Bool} {k : γ → Option α}
    (hi : IX X tg iter ρ L PL true en o) (hPL : ∀ M, PL (L ++ M)) (hg : Bk X scope fun X => ∀ x, GY X tg (wipeE ρ (own.map (·.2))) (en x) (ρb x) (own.map (·.2)))
    (ht : Bk X scope fun X => ∀ x M, TX X c (ρb x) (L ++ M) (cf x)) (he : Bk X scope fun X => ∀ x M, EX X d elt (ρb x) (L ++ M) (k x)) :
    LCA X tg iter elt [c] scope own d ρ (fun _ : Unit => L) () ((o.bind fun xs => filtO cf k xs).map fun ys => (ys, ())) :=
  (lm_if (Lf := fun _ => L) hi (fun _ => hPL) hg (TX.bk ht) (EX.bk he)).conv (by cases o with | none => rfl | some xs => exact filtO_W cf k xs)
theorem lp_no {scope : Scope} {own : List (Str × Nat)} {PL : Ow → Prop} {en : γ → Sl} {o : Option (List γ)} {ρb : γ → Env} {k : γ → Option α}
    (hi : IX X tg iter ρ L PL true en o) (hPL : ∀ M, PL (L ++ M)) (hg : Bk X scope fun X => ∀ x, GY X tg (wipeE ρ (own.map (·.2))) (en x) (ρb x) (own.map (·.2)))
    (he : Bk X scope fun X => ∀ x M, EX X d elt (ρb x) (L ++ M) (k x)) :
    LCA X tg iter elt [] scope own d ρ (fun _ : Unit => L) () ((o.bind fun xs => mapO k xs).map fun ys => (ys, ())) :=
  (lm_no (Lf := fun _ => L) hi (fun _ => hPL) hg (EX.bk he)).conv (by cases o with | none => rfl | some xs => exact mapO_W k xs)
/-- as a value -/
theorem LCA.n {ifs : List Expr} {scope : Scope} {own : List (Str × Nat)} {o : Option (List α)} (h : LCA X tg iter elt ifs scope own d ρ (fun _ : Unit => L) () (o.map fun ys => (ys, ()))) (hN : X.N.Nodup) (ok : BlkOk X.N X.env.scope scope own) (hc : X.calm = true := by rfl) (hs : ∀ x, foldedSetIterable iter X.env x = pure x := by intro _; rfl) :
    EN X d (.ListComp elt [⟨tg, iter, ifs, 0⟩] scope pos) ρ L o := by
  obtain ⟨wi, g, tt, te, pi, pg, pt, pe, h⟩ := h
  exact ⟨_, pe_lc hc hN pi ok pg pt pe hs, fun a ha => h a () (by rw [ha]; rfl)⟩
theorem LCA.m {ifs : List Expr} {scope : Scope} {own : List (Str × Nat)} {Lf : W → Ow} {w : W} {o : Option (List α × W)} (h : LCA X tg iter elt ifs scope own d ρ Lf w o) (hN : X.N.Nodup) (ok : BlkOk X.N X.env.scope scope own) (hc : X.calm = true := by rfl) (hs : ∀ x, foldedSetIterable iter X.env x = pure x := by intro _; rfl) :
    EM X (dL d) (.ListComp elt [⟨tg, iter, ifs, 0⟩] scope pos) ρ Lf w o := by
  obtain ⟨wi, g, tt, te, pi, pg, pt, pe, h⟩ := h
  refine ⟨_, pe_lc hc hN pi ok pg pt pe hs, fun xs w' hx B F0 σ H vs ds Q s k => h xs w' hx B F0 σ H vs ds _ s fun p H1 s1 => k _ _ ?_⟩
  have s2 := St.frz (L2 := []) s1
  rw [List.append_nil] at s2
  exact s2
/-- y = [..]: data; an owned list -/
theorem LCA.s {ifs : List Expr} {scope : Scope} {own : List (Str × Nat)} {o : Option (List α)} {y : Str} {py spos : Pos} (h : LCA X tg iter elt ifs scope own d ρ (fun _ : Unit => L) () (o.map fun ys => (ys, ()))) (i : Nat) (hN : X.N.Nodup) (ok : BlkOk X.N X.env.scope scope own)
    (hsw : swapsWith (.ListComp elt [⟨tg, iter, ifs, 0⟩] scope pos) (some (.Name y py)) spos.line X.env = pure true) (hi : X.N[i]? = some y := by rfl) (hyl : X.env.scope.names.lookup y = some .local := by rfl) (hc : X.calm = true := by rfl) (hs : ∀ x, foldedSetIterable iter X.env x = pure x := by intro _; rfl) :
    SX X (.Assign [.Name y py] (.ListComp elt [⟨tg, iter, ifs, 0⟩] scope pos) spos) ρ L o (ocn fun ys => (ρ.set i (some (.dat (dL d ys))), L)) := by
  obtain ⟨wi, g, tt, te, pi, pg, pt, pe, h⟩ := h
  refine ⟨_, ps_setLc hc hN hi hyl hsw pi ok pg pt pe hs, fun a ha B F0 σ H vs ds D s k => h a () (by rw [ha]; rfl) B F0 σ H vs ds _ s fun p H1 s1 => k _ _ ?_⟩
  have s2 := St.frz (L2 := []) s1
  rw [List.append_nil] at s2
  exact s2.store i
theorem LCA.sm {ifs : List Expr} {scope : Scope} {own : List (Str × Nat)} {Lf : W → Ow} {w : W} {o : Option (List α × W)} {y : Str} {py spos : Pos} (h : LCA X tg iter elt ifs scope own d ρ Lf w o) (i : Nat) (hN : X.N.Nodup) (ok : BlkOk X.N X.env.scope scope own)
    (hsw : swapsWith (.ListComp elt [⟨tg, iter, ifs, 0⟩] scope pos) (some (.Name y py)) spos.line X.env = pure true) (hi : X.N[i]? = some y := by rfl) (hyl : X.env.scope.names.lookup y = some .local := by rfl) (hc : X.calm = true := by rfl) (hs : ∀ x, foldedSetIterable iter X.env x = pure x := by intro _; rfl) :
    SX X (.Assign [.Name y py] (.ListComp elt [⟨tg, iter, ifs, 0⟩] scope pos) spos) ρ (Lf w) o (ocn fun ys => (ρ.set i (some (.dat (dL d ys.1))), Lf ys.2)) := by
  obtain ⟨wi, g, tt, te, pi, pg, pt, pe, h⟩ := h
  refine ⟨_, ps_setLc hc hN hi hyl hsw pi ok pg pt pe hs, fun a ha B F0 σ H vs ds D s k => h a.1 a.2 ha B F0 σ H vs ds _ s fun p H1 s1 => k _ _ ?_⟩
  have s2 := St.frz (L2 := []) s1
  rw [List.append_nil] at s2
  exact s2.store i
theorem LCA.b {δ : Type} {oc : δ → Oc} {rest : List Stmt} {kk : List α → Option δ} {ifs : List Expr} {scope : Scope} {own : List (Str × Nat)} {o : Option (List α)} {y : Str} {py spos : Pos} (h : LCA X tg iter elt ifs scope own d ρ (fun _ : Unit => L) () (o.map fun ys => (ys, ()))) (i : Nat) (hN : X.N.Nodup) (ok : BlkOk X.N X.env.scope scope own)
    (hsw : swapsWith (.ListComp elt [⟨tg, iter, ifs, 0⟩] scope pos) (some (.Name y py)) spos.line X.env = pure true) (hr : ∀ p a, BX X rest (ρ.set i (some (.ptr p))) (L ++ [(p, .lst ((a.map d).map .dat))]) (kk a) oc) (hi : X.N[i]? = some y := by rfl) (hyl : X.env.scope.names.lookup y = some .local := by rfl) (hc : X.calm = true := by rfl) (hs : ∀ x, foldedSetIterable iter X.env x = pure x := by intro _; rfl) :
    BX X (.Assign [.Name y py] (.ListComp elt [⟨tg, iter, ifs, 0⟩] scope pos) spos :: rest) ρ L (o.bind kk) oc := by
  obtain ⟨wi, g, tt, te, pi, pg, pt, pe, h⟩ := h
  obtain ⟨t', p', hr⟩ := BX.all (S := Addr × List α) (ρf := fun q => ρ.set i (some (.ptr q.1))) (Lf := fun q => L ++ [(q.1, .lst ((q.2.map d).map .dat))]) (k := fun q => kk q.2) (fun q => hr q.1 q.2)
  refine ⟨_, pss_cons (ps_setLc hc hN hi hyl hsw pi ok pg pt pe hs) p', fun b hb B F0 σ H vs ds D s gd => ?_⟩
  obtain ⟨a, ha, hb⟩ := Option.bind_eq_some_iff.mp hb
  exact h a () (by rw [ha]; rfl) B F0 σ H vs ds (fun x H1 => t' D (σ.set i (some x)) H1) s fun p H1 s1 => hr (p, a) b hb B F0 _ _ vs ds D (s1.store i) gd
end
end Mir
namespace Mir
open PySem L2

/-! ### x in xs, whatever the items are -/
def rInS (K : PySem.W.Frag) (neg : Bool) : R2 := fun x y H Q => ∃ d ds a us, y = .ref a ∧ (SqL K H a us ∨ SqT K H a us) ∧ DpAll K H us ds ∧ Dp K H x d ∧ SeqAt.shaped d = true ∧ PyData.canLayAll0 ds = true ∧ Q (.bl (if neg then !ds.any (fun z => PyData.eqv z d) else ds.any fun z => PyData.eqv z d)) H
section
variable {X : Cx}
theorem room_in {A : Around} {ds : List PyData} {d : PyData} (h : SeqAt.shaped d = true) (hu : A.units + 65 < cLine) : A.units + 1 + min (PyData.depthAll ds) d.depth < cLine := by
  have h1 := SeqAt.depth_of_shaped h
  have h2 : min (PyData.depthAll ds) d.depth ≤ d.depth := Nat.min_le_right _ _
  omega
theorem op_inS (hu : X.A.units + 65 < cLine) : OpR X (compareOp .In) (rInS X.K false) := by
  intro pins s σ H x y v u Q I rx ry h
  obtain ⟨d, ds, a, us, rfl, hs, ha, hd, sd, sl, q⟩ := h
  obtain ⟨as, r1⟩ := Dp.reads I d x v hd rx
  rcases hs with hs | hs
  · obtain ⟨bs, r2⟩ := Dp.reads I (.list ds) _ u (.lst hs ha) ry
    exact SeqAt.in_list_reads r2 r1 sl (SeqAt.canLay_of_shaped sd) (room_in sd hu) ⟨.bl _, H, I, rfl, q⟩
  · obtain ⟨bs, r2⟩ := Dp.reads I (.tuple ds) _ u (.tup hs ha) ry
    exact SeqAt.in_tuple_reads r2 r1 sl (SeqAt.canLay_of_shaped sd) (room_in sd hu) ⟨.bl _, H, I, rfl, q⟩
theorem op_notInS (hu : X.A.units + 65 < cLine) : OpR X (compareOp .NotIn) (rInS X.K true) := by
  intro pins s σ H x y v u Q I rx ry h
  obtain ⟨d, ds, a, us, rfl, hs, ha, hd, sd, sl, q⟩ := h
  obtain ⟨as, r1⟩ := Dp.reads I d x v hd rx
  rcases hs with hs | hs
  · obtain ⟨bs, r2⟩ := Dp.reads I (.list ds) _ u (.lst hs ha) ry
    exact SeqAt.notIn_list_reads r2 r1 sl (SeqAt.canLay_of_shaped sd) (room_in sd hu) ⟨.bl _, H, I, rfl, q⟩
  · obtain ⟨bs, r2⟩ := Dp.reads I (.tuple ds) _ u (.tup hs ha) ry
    exact SeqAt.notIn_tuple_reads r2 r1 sl (SeqAt.canLay_of_shaped sd) (room_in sd hu) ⟨.bl _, H, I, rfl, q⟩
end
theorem any_mem {α : Type} [DecidableEq α] {n : Nat} {d : α → PyData} (h : Lw n d) (x : α) (xs : List α) : (xs.map d).any (fun z => PyData.eqv z (d x)) = decide (x ∈ xs) := by
  rw [List.any_map]
  rw [Bool.eq_iff_iff, List.any_eq_true, decide_eq_true_eq]
  constructor
  · rintro ⟨y, hy, e⟩
    have : PyData.eqv (d y) (d x) = true := e
    rw [h.eqv, decide_eq_true_eq] at this
    exact this ▸ hy
  · intro hx
    exact ⟨x, hx, by show PyData.eqv (d x) (d x) = true; rw [h.eqv]; exact decide_eq_true rfl⟩
section
variable {X : Cx} {α β γ : Type} {a b e : Expr} {ρ : Env} {L : Ow} {p pos : Pos} {d : α → PyData} {d' : β → PyData} {j : Nat}
theorem in_core [DecidableEq α] {n : Nat} {neg : Bool} (hl : Lw n d) (hn : n ≤ 64) {B F0 : Hp} {σ : L2.St} {H : Hp} {u v : V} {sl : Sl} {x : α} {xs : List α} {vs : List V} {ds : List Sl} {Q : VK} (q : SeqOf L sl (xs.map d)) (s : St X.K B F0 ρ L σ H (u :: v :: vs) (sl :: .dat (d x) :: ds))
    (k : ∀ v H', St X.K B F0 ρ L σ H' (v :: vs) (.dat (.bool (if neg then !decide (x ∈ xs) else decide (x ∈ xs))) :: ds) → Q v H') : rInS X.K neg v u H Q := by
  obtain ⟨a, us, rfl, h1, h2, h3⟩ := s.seq q
  obtain ⟨F, ok, sl', sv⟩ := id h3
  obtain ⟨sv1, sv2⟩ := pr_split (by rw [List.length_map]; exact h2) sv
  cases sv2 with
  | cons r1 t =>
    cases t with
    | cons r2 t =>
      refine ⟨d x, xs.map d, a, us, rfl, h1, Rps.dp ok.le _ _ (nodAll_of_lay _ (layAll_map hl.lay xs)) (dats sv1), Rp.dp ok.le _ _ (nod_of_lay _ (hl.lay x)) r2, hl.shaped hn x, layAll_map hl.lay xs, ?_⟩
      rw [any_mem hl]
      exact k _ _ s.pop.pop.bl
theorem x_in [DecidableEq α] {n : Nat} {o : Option α} {os : Option (List α)} (hl : Lw n d) (hr : Room j X.A) (ha : EX X d a ρ L o) (hb : QX X d b ρ L os) (hm : behindInMarks .In b = false := by rfl) (hn : n ≤ 64 := by decide) : EX X dB (.Compare a [.In] [b] pos) ρ L (o.bind fun x => os.bind fun xs => some (decide (x ∈ xs))) := by
  obtain ⟨ta, pa, ha⟩ := ha
  obtain ⟨tb, pb, hb⟩ := hb
  refine ⟨_, pe_cmpR (op_inS (by have := hr.un; omega)) pa pb hm, fun z hz B F0 σ H vs ds Q s k => ?_⟩
  obtain ⟨x, hx, hz⟩ := Option.bind_eq_some_iff.mp hz
  obtain ⟨y, hy, hz⟩ := Option.bind_eq_some_iff.mp hz
  cases hz
  exact ha x hx B F0 σ H vs ds _ s fun v H1 s1 => hb y hy B F0 σ H1 _ _ _ s1 fun u sl H2 q s2 => in_core (neg := false) hl hn q s2 k
theorem x_notIn [DecidableEq α] {n : Nat} {o : Option α} {os : Option (List α)} (hl : Lw n d) (hr : Room j X.A) (ha : EX X d a ρ L o) (hb : QX X d b ρ L os) (hm : behindInMarks .NotIn b = false := by rfl) (hn : n ≤ 64 := by decide) : EX X dB (.Compare a [.NotIn] [b] pos) ρ L (o.bind fun x => os.bind fun xs => some (!decide (x ∈ xs))) := by
  obtain ⟨ta, pa, ha⟩ := ha
  obtain ⟨tb, pb, hb⟩ := hb
  refine ⟨_, pe_cmpR (op_notInS (by have := hr.un; omega)) pa pb hm, fun z hz B F0 σ H vs ds Q s k => ?_⟩
  obtain ⟨x, hx, hz⟩ := Option.bind_eq_some_iff.mp hz
  obtain ⟨y, hy, hz⟩ := Option.bind_eq_some_iff.mp hz
  cases hz
  exact ha x hx B F0 σ H vs ds _ s fun v H1 s1 => hb y hy B F0 σ H1 _ _ _ s1 fun u sl H2 q s2 => in_core (neg := true) hl hn q s2 k
/-- a comparison's value as a test -/
theorem t_cmpv {op : CmpOp} {o : Option Bool} (h : EX X dB (.Compare a [op] [b] pos) ρ L o) (hh : ∀ {t}, PE X (.Compare a [op] [b] pos) t → PT X (.Compare a [op] [b] pos) (tB t)) : TX X (.Compare a [op] [b] pos) ρ L o := by
  obtain ⟨t, p, h⟩ := h
  exact ⟨_, hh p, fun b hb B F0 σ H vs ds Q s k => h b hb B F0 σ H vs ds _ s fun v H' s' => ⟨b, s'.isBl, k H' s'.pop⟩⟩
theorem t_in [DecidableEq α] {n : Nat} {o : Option α} {os : Option (List α)} (hl : Lw n d) (hr : Room j X.A) (ha : EX X d a ρ L o) (hb : QX X d b ρ L os) (hm : behindInMarks .In b = false := by rfl) (hn : n ≤ 64 := by decide) : TX X (.Compare a [.In] [b] pos) ρ L (o.bind fun x => os.bind fun xs => some (decide (x ∈ xs))) := by
  obtain ⟨ta, pa, ha⟩ := ha
  obtain ⟨tb, pb, hb⟩ := hb
  refine ⟨_, pt_cmpR (op_inS (by have := hr.un; omega)) pa pb hm, fun z hz B F0 σ H vs ds Q s k => ?_⟩
  obtain ⟨x, hx, hz⟩ := Option.bind_eq_some_iff.mp hz
  obtain ⟨y, hy, hz⟩ := Option.bind_eq_some_iff.mp hz
  cases hz
  exact ha x hx B F0 σ H vs ds _ s fun v H1 s1 => hb y hy B F0 σ H1 _ _ _ s1 fun u sl H2 q s2 => in_core (neg := false) hl hn q s2 fun v H' s' => ⟨_, s'.isBl, k H' s'.pop⟩
theorem t_notIn [DecidableEq α] {n : Nat} {o : Option α} {os : Option (List α)} (hl : Lw n d) (hr : Room j X.A) (ha : EX X d a ρ L o) (hb : QX X d b ρ L os) (hm : behindInMarks .NotIn b = false := by rfl) (hn : n ≤ 64 := by decide) : TX X (.Compare a [.NotIn] [b] pos) ρ L (o.bind fun x => os.bind fun xs => some (!decide (x ∈ xs))) := by
  obtain ⟨ta, pa, ha⟩ := ha
  obtain ⟨tb, pb, hb⟩ := hb
  refine ⟨_, pt_cmpR (op_notInS (by have := hr.un; omega)) pa pb hm, fun z hz B F0 σ H vs ds Q s k => ?_⟩
  obtain ⟨x, hx, hz⟩ := Option.bind_eq_some_iff.mp hz
  obtain ⟨y, hy, hz⟩ := Option.bind_eq_some_iff.mp hz
  cases hz
  exact ha x hx B F0 σ H vs ds _ s fun v H1 s1 => hb y hy B F0 σ H1 _ _ _ s1 fun u sl H2 q s2 => in_core (neg := true) hl hn q s2 fun v H' s' => ⟨_, s'.isBl, k H' s'.pop⟩

/-! ### lists alone -/
inductive LstOf (L : Ow) : Sl → List PyData → Prop
  | lst (ds : List PyData) : LstOf L (.dat (.list ds)) ds
  | own {p : Addr} {ds : List PyData} : (p, OD.lst (ds.map .dat)) ∈ L → LstOf L (.ptr p) ds
def QL (X : Cx) {α : Type} (d : α → PyData) (e : Expr) (ρ : Env) (L : Ow) (o : Option (List α)) : Prop :=
  ∃ t, PE X e t ∧ ∀ a, o = some a → ∀ B F0 σ H vs ds Q, St X.K B F0 ρ L σ H vs ds → (∀ v s H', LstOf L s (a.map d) → St X.K B F0 ρ L σ H' (v :: vs) (s :: ds) → Q v H') → t σ H Q
theorem St.lstOf {K : PySem.W.Frag} {B F0 H : Hp} {σ : L2.St} {vs : List V} {ds : List Sl} {v : V} {s : Sl} {xs : List PyData} (q : LstOf L s xs) (h : St K B F0 ρ L σ H (v :: vs) (s :: ds)) :
    ∃ a us, v = .ref a ∧ H a = some (.lst us) ∧ us.length = xs.length ∧ us.length ≤ sizeLine ∧ St K B F0 ρ L σ H (us ++ v :: vs) (xs.map .dat ++ s :: ds) := by
  cases q with
  | lst => exact h.lst1
  | own m =>
    have e := h.isPtr
    obtain ⟨us, h1, h2, h4, h3⟩ := h.own1 m
    exact ⟨_, us, e, h1, by rw [h2, List.length_map], h4, h3⟩
theorem EX.l {o : Option (List α)} (h : EX X (dL d) e ρ L o) : QL X d e ρ L o := by
  obtain ⟨t, p, h⟩ := h
  exact ⟨t, p, fun xs hx B F0 σ H vs ds Q s k => h xs hx B F0 σ H vs ds _ s fun v H1 s1 => k v _ H1 (.lst _) s1⟩
theorem EN.l {o : Option (List α)} (h : EN X d e ρ L o) : QL X d e ρ L o := h.x.l
theorem ES.l {p : Addr} {xs : List α} (h : ES X e ρ L (some (.ptr p))) (m : (p, OD.lst ((xs.map d).map .dat)) ∈ L) : QL X d e ρ L (some xs) := by
  obtain ⟨t, p, h⟩ := h
  exact ⟨t, p, fun ys hy B F0 σ H vs ds Q s k => by cases hy; exact h _ rfl B F0 σ H vs ds _ s fun v H1 s1 => k v _ H1 (.own m) s1⟩
/-- xs + ys -/
theorem n_cat {o o' : Option (List α)} (ha : QL X d a ρ L o) (hb : QL X d b ρ L o') : EN X d (.BinOp a .Add b pos) ρ L (o.bind fun xs => o'.bind fun ys => catO xs ys) := by
  obtain ⟨ta, pa, ha⟩ := ha
  obtain ⟨tb, pb, hb⟩ := hb
  refine ⟨_, pe_op op_cat pa pb, fun z hz B F0 σ H vs ds Q s k => ?_⟩
  obtain ⟨x, hx, hz⟩ := Option.bind_eq_some_iff.mp hz
  obtain ⟨y, hy, hz⟩ := Option.bind_eq_some_iff.mp hz
  unfold catO szO at hz
  split at hz
  · rename_i hl
    have e : x ++ y = z := by simpa using hz
    subst e
    refine ha x hx B F0 σ H vs ds _ s fun v sl H1 q1 s1 => hb y hy B F0 σ H1 _ _ _ s1 fun u sl' H2 q2 s2 => ?_
    obtain ⟨p2, us2, rfl, e2, l2, _, s3⟩ := s2.lstOf q2
    obtain ⟨p1, us1, rfl, e1, l1, _, s4⟩ := s2.pop.lstOf q1
    rw [List.length_map] at l1 l2
    refine ⟨p1, p2, us1, us2, rfl, rfl, e1, e2, by omega, fun p hp => k p _ ?_⟩
    refine St.newLst (xs := ((x ++ y).map d).map .dat) (us := us1 ++ us2) ?_ (by rw [List.length_append, List.length_map, List.length_map, List.length_append]; omega) hp (by rw [List.length_append]; omega)
    obtain ⟨F, ok, sl1, sv⟩ := s2
    cases sv with
    | cons r1 t =>
      cases t with
      | cons r2 t =>
        obtain ⟨p2', us2', h1', h2', h3'⟩ : ∃ a us, V.ref p2 = .ref a ∧ H2 a = some (.lst us) ∧ Paired (SvR X.K F) us ((y.map d).map .dat) := by
          cases q2 with
          | lst =>
            cases (show Rp F _ _ from r1) with
            | lst g1 g2 => exact ⟨_, _, rfl, ok.le _ _ g1, dats_of g2⟩
          | own m =>
            obtain ⟨_, _, us, g1, g2⟩ := ok.own _ m
            exact ⟨_, us, r1, g1, g2⟩
        obtain ⟨p1', us1', h4', h5', h6'⟩ : ∃ a us, V.ref p1 = .ref a ∧ H2 a = some (.lst us) ∧ Paired (SvR X.K F) us ((x.map d).map .dat) := by
          cases q1 with
          | lst =>
            cases (show Rp F _ _ from r2) with
            | lst g1 g2 => exact ⟨_, _, rfl, ok.le _ _ g1, dats_of g2⟩
          | own m =>
            obtain ⟨_, _, us, g1, g2⟩ := ok.own _ m
            exact ⟨_, us, r2, g1, g2⟩
        cases h1'
        cases h4'
        rw [h2'] at e2
        rw [h5'] at e1
        cases e1
        cases e2
        exact ⟨F, ok, sl1, by rw [List.map_append, List.map_append]; exact pr_app (pr_app h6' h3') t⟩
  · cases hz
theorem pr_rep {R : V → Sl → Prop} {us : List V} {ss : List Sl} (h : Paired R us ss) : ∀ k : Nat, Paired R (List.replicate k us).flatten (List.replicate k ss).flatten
  | 0 => .nil
  | k + 1 => by
    rw [List.replicate_succ, List.replicate_succ, List.flatten_cons, List.flatten_cons]
    exact pr_app h (pr_rep h k)
theorem len_rep {τ : Type} (xs : List τ) : ∀ k : Nat, (List.replicate k xs).flatten.length = xs.length * k
  | 0 => rfl
  | k + 1 => by rw [List.replicate_succ, List.flatten_cons, List.length_append, len_rep xs k, Nat.mul_succ, Nat.add_comm]
theorem map_rep {τ υ : Type} (f : τ → υ) (xs : List τ) : ∀ k : Nat, (List.replicate k xs).flatten.map f = (List.replicate k (xs.map f)).flatten
  | 0 => rfl
  | k + 1 => by rw [List.replicate_succ, List.flatten_cons, List.map_append, map_rep f xs k, List.replicate_succ, List.flatten_cons]
/-- xs * k -/
theorem n_rep {o : Option (List α)} {o' : Option Int} (ha : EX X (dL d) a ρ L o) (hb : EX X dI b ρ L o') : EN X d (.BinOp a .Mult b pos) ρ L (o.bind fun xs => o'.bind fun k => repO xs k) := by
  obtain ⟨ta, pa, ha⟩ := ha
  obtain ⟨tb, pb, hb⟩ := hb
  refine ⟨_, pe_op op_rep pa pb, fun z hz B F0 σ H vs ds Q s k => ?_⟩
  obtain ⟨x, hx, hz⟩ := Option.bind_eq_some_iff.mp hz
  obtain ⟨y, hy, hz⟩ := Option.bind_eq_some_iff.mp hz
  unfold repO at hz
  split at hz
  · rename_i hl
    obtain ⟨b1, b2, hl⟩ := hl
    have e : (List.replicate y.toNat x).flatten = z := by simpa using hz
    subst e
    refine ha x hx B F0 σ H vs ds _ s fun v H1 s1 => hb y hy B F0 σ H1 _ _ _ s1 fun u H2 s2 => ?_
    obtain ⟨p1, us1, rfl, e1, l1, _, s4⟩ := s2.pop.lst1
    rw [List.length_map] at l1
    refine ⟨p1, y, us1, rfl, s2.isInt, e1, b1, b2, by rw [l1]; exact hl, fun p hp => k p _ ?_⟩
    refine St.newLst (xs := (((List.replicate y.toNat x).flatten).map d).map .dat) (us := (List.replicate y.toNat us1).flatten) ?_ (by rw [List.length_map, List.length_map, len_rep, len_rep, l1]) hp (by rw [len_rep, l1]; exact hl)
    refine s4.stack fun F r => ?_
    obtain ⟨r1, r2⟩ := pr_split (by rw [List.length_map, List.length_map]; exact l1) r
    rw [map_rep, map_rep]
    exact pr_app (pr_rep r1 _) (by cases r2 with | cons _ t => exact t)
  · cases hz
/-- t + u -/
theorem x_catT {o o' : Option (List α)} (ha : EX X (dT d) a ρ L o) (hb : EX X (dT d) b ρ L o') : EX X (dT d) (.BinOp a .Add b pos) ρ L (o.bind fun xs => o'.bind fun ys => catO xs ys) := by
  obtain ⟨ta, pa, ha⟩ := ha
  obtain ⟨tb, pb, hb⟩ := hb
  refine ⟨_, pe_op op_catA pa pb, fun z hz B F0 σ H vs ds Q s k => ?_⟩
  obtain ⟨x, hx, hz⟩ := Option.bind_eq_some_iff.mp hz
  obtain ⟨y, hy, hz⟩ := Option.bind_eq_some_iff.mp hz
  unfold catO szO at hz
  split at hz
  · rename_i hl
    have e : x ++ y = z := by simpa using hz
    subst e
    refine ha x hx B F0 σ H vs ds _ s fun v H1 s1 => hb y hy B F0 σ H1 _ _ _ s1 fun u H2 s2 => ?_
    obtain ⟨F, ok, sl1, sv⟩ := id s2
    cases sv with
    | cons r1 t =>
      cases t with
      | cons r2 t =>
        cases (show Rp F _ (.tuple (y.map d)) from r1) with
        | @tup p2 us2 _ g1 g2 =>
          cases (show Rp F _ (.tuple (x.map d)) from r2) with
          | @tup p1 us1 _ g3 g4 =>
            have l1 := g4.length
            have l2 := g2.length
            rw [List.length_map] at l1 l2
            refine ⟨p1, p2, us1, us2, rfl, rfl, SqT.of (ok.le _ _ g3), SqT.of (ok.le _ _ g1), by omega, fun e => ?_, fun _ e => ?_, fun _ _ p hp => ?_⟩
            · have e3 : x = [] := by rw [e] at l1; exact List.length_eq_zero_iff.mp l1.symm
              subst e3
              exact k _ _ ⟨F, ok, sl1, .cons (.tup g1 g2) t⟩
            · have e3 : y = [] := by rw [e] at l2; exact List.length_eq_zero_iff.mp l2.symm
              subst e3
              rw [List.append_nil] at k
              exact k _ _ ⟨F, ok, sl1, .cons (.tup g3 g4) t⟩
            · refine k _ _ (St.newTup (xs := (x ++ y).map d) (us := us1 ++ us2) ⟨F, ok, sl1, ?_⟩ (by rw [List.length_append, List.length_map, List.length_append]; omega) hp (by rw [List.length_append]; omega))
              rw [List.map_append, List.map_append]
              exact pr_app (pr_app (dats_of g4) (dats_of g2)) t
  · cases hz
/-! ### slices -/
def cutI {α : Type} (xs : List α) (lo hi : Option Int) : List α := (xs.drop (HT.sIx xs.length 0 lo)).take (HT.sIx xs.length xs.length hi - HT.sIx xs.length 0 lo)
/-- a part of a slice -/
def OX (X : Cx) (e : Option Expr) (ρ : Env) (L : Ow) (o : Option (Option Int)) : Prop :=
  ∃ t, PO X e t ∧ ∀ a, o = some a → ∀ B F0 σ H vs ds Q, St X.K B F0 ρ L σ H vs ds → (∀ H', St X.K B F0 ρ L σ H' vs ds → Q a H') → t σ H Q
theorem o_none : OX X none ρ L (some none) := ⟨_, po_none, fun a ha B F0 σ H vs ds Q s k => by cases ha; exact k H s⟩
theorem o_some {o : Option Int} (h : EX X dI e ρ L o) : OX X (some e) ρ L (o.map some) := by
  obtain ⟨t, p, h⟩ := h
  refine ⟨_, po_some p, fun a ha B F0 σ H vs ds Q s k => ?_⟩
  obtain ⟨i, hi, rfl⟩ := Option.map_eq_some_iff.mp ha
  exact h i hi B F0 σ H vs ds _ s fun v H1 s1 => ⟨i, s1.isInt, k _ s1.pop⟩
theorem pr_cut {K : PySem.W.Frag} {F : Hp} {us : List V} {ss : List Sl} (h : Paired (SvR K F) us ss) (lo hi : Option Int) : Paired (SvR K F) (cutV us lo hi) (cutI ss lo hi) := by
  unfold cutV cutI
  rw [Paired.length h]
  exact pr_take _ (pr_drop _ h)
theorem map_cut {τ υ : Type} (f : τ → υ) (xs : List τ) (lo hi : Option Int) : (cutI xs lo hi).map f = cutI (xs.map f) lo hi := by unfold cutI; rw [List.length_map, List.map_take, List.map_drop]
theorem cutI_length {τ : Type} (xs : List τ) (lo hi : Option Int) : (cutI xs lo hi).length ≤ xs.length := by unfold cutI; rw [List.length_take, List.length_drop]; omega
theorem n_slice {lo hi : Option Expr} {p2 : Pos} {o : Option (List α)} {ol oh : Option (Option Int)} (h : QL X d e ρ L o) (hl : OX X lo ρ L ol) (hh : OX X hi ρ L oh) : EN X d (.Subscript e (.Slice lo hi none p2) pos) ρ L (o.bind fun xs => ol.bind fun l => oh.map fun u => cutI xs l u) := by
  obtain ⟨t, p, h⟩ := h
  obtain ⟨t1, p1, hl⟩ := hl
  obtain ⟨t2, p2', hh⟩ := hh
  refine ⟨_, pe_slice sl_list p p1 p2', fun z hz B F0 σ H vs ds Q s k => ?_⟩
  obtain ⟨x, hx, hz⟩ := Option.bind_eq_some_iff.mp hz
  obtain ⟨l, hl', hz⟩ := Option.bind_eq_some_iff.mp hz
  obtain ⟨u, hu, rfl⟩ := Option.map_eq_some_iff.mp hz
  refine h x hx B F0 σ H vs ds _ s fun v sl H1 q s1 => hl l hl' B F0 σ H1 _ _ _ s1 fun H2 s2 => hh u hu B F0 σ H2 _ _ _ s2 fun H3 s3 => ?_
  obtain ⟨a, us, rfl, h1, h2, h4, s4⟩ := s3.lstOf q
  rw [List.length_map] at h2
  refine ⟨a, us, rfl, SqL.of h1, fun p hp => k p _ ?_⟩
  have e3 : (cutV us l u).length = (((cutI x l u).map d).map Sl.dat).length := by
    rw [List.length_map, List.length_map]; unfold cutV cutI; rw [List.length_take, List.length_drop, List.length_take, List.length_drop, h2]
  refine St.newLst (us := cutV us l u) ?_ e3 hp (Nat.le_trans (cutV_length us l u) h4)
  refine s4.stack fun F r => ?_
  obtain ⟨r1, r2⟩ := pr_split (by rw [List.length_map, List.length_map]; exact h2) r
  rw [map_cut, map_cut]
  exact pr_app (pr_cut r1 l u) (by cases r2 with | cons _ t => exact t)
theorem x_sliceT {lo hi : Option Expr} {p2 : Pos} {o : Option (List α)} {ol oh : Option (Option Int)} (h : EX X (dT d) e ρ L o) (hl : OX X lo ρ L ol) (hh : OX X hi ρ L oh) : EX X (dT d) (.Subscript e (.Slice lo hi none p2) pos) ρ L (o.bind fun xs => ol.bind fun l => oh.map fun u => cutI xs l u) := by
  obtain ⟨t, p, h⟩ := h
  obtain ⟨t1, p1, hl⟩ := hl
  obtain ⟨t2, p2', hh⟩ := hh
  refine ⟨_, pe_slice sl_tupA p p1 p2', fun z hz B F0 σ H vs ds Q s k => ?_⟩
  obtain ⟨x, hx, hz⟩ := Option.bind_eq_some_iff.mp hz
  obtain ⟨l, hl', hz⟩ := Option.bind_eq_some_iff.mp hz
  obtain ⟨u, hu, rfl⟩ := Option.map_eq_some_iff.mp hz
  refine h x hx B F0 σ H vs ds _ s fun v H1 s1 => hl l hl' B F0 σ H1 _ _ _ s1 fun H2 s2 => hh u hu B F0 σ H2 _ _ _ s2 fun H3 s3 => ?_
  obtain ⟨a, us, rfl, h1, h2, h4, s4⟩ := s3.tup1
  rw [List.length_map] at h2
  have e3 : (cutV us l u).length = ((cutI x l u).map d).length := by
    rw [List.length_map]; unfold cutV cutI; rw [List.length_take, List.length_drop, List.length_take, List.length_drop, h2]
  refine ⟨a, us, rfl, SqT.of h1, fun w => ?_, fun _ p hp => k _ _ ?_⟩
  · have e4 : cutI x l u = x := by
      rw [h2] at w
      unfold cutI
      rw [w.1, w.2, List.drop_zero, Nat.sub_zero, List.take_length]
    rw [e4] at k
    exact k _ _ s3
  · refine St.newTup (us := cutV us l u) ?_ e3 hp (Nat.le_trans (cutV_length us l u) h4)
    refine s4.stack fun F r => ?_
    obtain ⟨r1, r2⟩ := pr_split (by rw [List.length_map, List.length_map]; exact h2) r
    rw [map_cut, map_cut]
    exact pr_app (pr_cut r1 l u) (by cases r2 with | cons _ t => exact t)
end
end Mir
namespace Mir
open PySem PySem.Spec PyProof.Rows PySem.W PySem.SeqAt PySem.Calls
/-! ### sorting tuples, some of them empty -/
section
variable {prog : Program} {w : World} {A : Around} {E : Value → Shared → Prop} {s : Shared} {β : Type}
theorem oneLt_tup {xs ys : List PyData} {a b : Value} {as bs : List Addr} {Q : Bool → Shared → Prop} (ra : Reads s.heap a (.tuple xs) as) (rb : Reads s.heap b (.tuple ys) bs) (h : alikeAll xs ys = true)
    (hu : A.units + min (PyData.tuple xs).depth (PyData.tuple ys).depth < cLine) (hq : Q (dataLt (.tuple xs) (.tuple ys)) s) : wpAny (model prog w) A (oneLt' true a b) Q E s := by
  cases ra with
  | @tuple l o vs n _ as₁ h1 h2 h3 h4 =>
    cases rb with
    | @tuple l' o' vs' n' _ bs₁ k1 k2 k3 k4 =>
      have n1 : vs.size = xs.length := by simpa using ReadsAll.length _ _ _ h4
      have n2 : vs'.size = ys.length := by simpa using ReadsAll.length _ _ _ k4
      obtain ⟨cls, dd, data, sl⟩ := o
      obtain ⟨cls2, dd2, data2, sl2⟩ := o'
      simp only at h2 h3 k2 k3
      subst h2 h3 k2 k3
      rw [dataLt_tuple, ← firstLt_toks xs ys h, ← n1, ← n2] at hq
      rw [oneLt'_eq]
      simp only [if_true]
      refine wpAny_bind (wpAny_cRoomFor (room_here hu) ?_)
      refine wpAny_bind (wpAny_callSpecialIfBound?_slot (T := "tuple") ⟨_, h1, rfl⟩ PySem.F.slot_tuple_lt (call_meets PySem.F.slot_tuple_lt ⟨_, h1, rfl⟩ PySem.F.entry_tuple_lt (PySem.F.args_tuple_lt_2 _ _)
        (PySem.SeqAt.tuple_ltAt l l' vs vs' n n' dd dd2 sl sl2 (pairEq xs ys) (fun j => dataLt (xs.getD j .none) (ys.getD j .none))) ⟨h1, k1, fun j j1 j2 => ?_, fun j j1 j2 hj => ?_, ?_⟩))
      · have := eqAt_alikeAll xs ys A.in1 s vs.toList vs'.toList _ _ h4 k4 h (PySem.SeqAt.room_in hu) j (by simpa using j1) (by simpa using j2)
        simpa using this
      · have := rcLt_alikeAll xs ys A.in1 s vs.toList vs'.toList _ _ h4 k4 h (PySem.SeqAt.room_in hu) j (by simpa using j1) (by simpa using j2) hj
        simpa using this
      · exact wpAny_truthy_bool hq
def fullT : PyData → Bool
  | .tuple [] => false
  | _ => true
theorem tup_firsts {M : Model} : ∀ {vs : List Value} {ds : List PyData} {Q : List (Option Value) → Shared → Prop}, EachIs (fun v d => ∃ as, Reads s.heap v d as) vs ds → (∀ d ∈ ds, ∃ xs, d = PyData.tuple xs) →
    (∀ fs : List (Option Value), fs.length = vs.length → (fs.map (·.isSome)) = ds.map fullT → Q fs s) → wpAny M A (vs.mapM firstOfTuple') Q E s
  | _, _, Q, .nil, _, h => by rw [List.mapM_nil]; exact wpAny_pure (h [] rfl rfl)
  | _, _, Q, .cons (b := d) ⟨as, r⟩ t, ht, h => by
    obtain ⟨xs, rfl⟩ := ht d (List.mem_cons_self ..)
    cases r with
    | @tuple a o its n _ _ ho hc hd hr =>
      rw [List.mapM_cons]
      refine wpAny_bind ?_
      rw [kas_first_eq]
      refine wpAny_bind (Looks.here (show Looks M s.heap (typeOf (.ref a)) o.cls from (Looks.ld ho).andThen .now) ?_)
      rw [hc, if_neg (by decide)]
      refine wpAny_bind (listItems_at ho hd (wpAny_pure ?_))
      have e : (its[0]?).isSome = fullT (.tuple xs) := by
        rw [← Array.getElem?_toList]
        cases hq : its.toList with
        | nil => rw [hq] at hr; cases hr; rfl
        | cons f fr => rw [hq] at hr; cases hr; rfl
      exact wpAny_bind (tup_firsts (Q := fun bs s' => wpAny M A (pure (its[0]? :: bs)) Q E s') t (fun d hd => ht d (List.mem_cons_of_mem _ hd)) fun fs l1 l2 => wpAny_pure (h _ (by rw [List.length_cons, List.length_cons, l1]) (by rw [List.map_cons, List.map_cons, e, l2])))
/-- the kind of keys where all are tuples, and one is empty -/
theorem tup_kind {vs : List Value} {ds : List PyData} {Q : SortKind → Shared → Prop} (e : EachIs (fun v d => ∃ as, Reads s.heap v d as) vs ds) (ht : ∀ d ∈ ds, ∃ xs, d = PyData.tuple xs) (he : ds.all fullT = false) (h1 : ds.head?.map fullT = some true → Q general' s) (h2 : ds.head?.map fullT = some false → Q oneType' s) :
    wpAny (model prog w) A (keyKind' vs.toArray) Q E s := by
  rw [kat_kind_eq, List.mapM_toArray, map_eq_pure_bind]
  refine wpAny_bind (wpAny_bind (tup_firsts e ht fun fs l1 l2 => wpAny_pure ?_))
  have hall : (fs.toArray.all fun x => x.isSome) = false := by
    rw [List.all_toArray, ← he]
    have : fs.all (fun x => x.isSome) = (fs.map (·.isSome)).all id := by rw [List.all_map]; rfl
    rw [this, l2, List.all_map]
    rfl
  rw [if_neg (by rw [hall]; simp)]
  have hhead : (fs.toArray[0]?.bind id).isSome = (ds.head?.map fullT == some true) := by
    cases fs with
    | nil => cases ds with
      | nil => rfl
      | cons d ds => simp at l2
    | cons f fs => cases ds with
      | nil => simp at l2
      | cons d ds =>
        rw [List.map_cons, List.map_cons] at l2
        injection l2 with l3 _
        have e0 : ((f :: fs).toArray[0]?.bind id) = f := by simp
        rw [e0, l3]
        show fullT d = (some (fullT d) == some true)
        cases fullT d <;> rfl
  by_cases hd : ds.head?.map fullT = some true
  · rw [if_pos (by rw [hhead, hd]; rfl)]
    exact wpAny_pure (h1 hd)
  · rw [if_neg (by rw [hhead]; simpa using hd)]
    cases ds with
    | nil => simp at he
    | cons d ds =>
      have hf : fullT d = false := by
        cases q : fullT d with
        | false => rfl
        | true => exact absurd (by rw [List.head?_cons, Option.map_some, q]) hd
      have hT : ∀ v ∈ vs, Looks (model prog w) s.heap (typeOf v) (Value.type "tuple") := fun v hv => by
        obtain ⟨d', hd', as, r⟩ := e.left v hv
        obtain ⟨xs, rfl⟩ := ht d' hd'
        exact looks_reads r
      have hne : ∃ v₁ rest, vs = v₁ :: rest := by
        cases e with
        | cons _ _ => exact ⟨_, _, rfl⟩
      obtain ⟨v₁, rest, rfl⟩ := hne
      rw [oneTypeOnly'_eq, List.mapM_toArray, map_eq_pure_bind]
      refine wpAny_bind (wpAny_bind (wpAny_bind (kas_mapM (r := Value.type "tuple") _ (fun v hv Q' hq => (hT v hv).here hq) (wpAny_pure ?_))))
      have hall2 : ((List.map (fun _ => Value.type "tuple") (v₁ :: rest)).toArray.all fun x => x == Value.type "tuple") = true := by
        simp only [List.all_toArray, List.all_map, List.all_eq_true]
        intro _ _
        rfl
      have h0 : (List.map (fun _ => Value.type "tuple") (v₁ :: rest)).toArray[0]? = some (Value.type "tuple") := by simp
      rw [h0]
      simp only [hall2, if_true]
      exact wpAny_pure (wpAny_pure (h2 (by rw [List.head?_cons, Option.map_some, hf])))
/-- tuples of alike data can be sorted, empty ones among them or not -/
theorem sortsAt_tups {vs : List Value} {ds : List PyData} (e : EachIs (fun v d => ∃ as, Reads s.heap v d as) vs ds) (hal : AllAlike ds) (ht : ∀ d ∈ ds, ∃ xs, d = PyData.tuple xs) (hu : ∀ d, d ∈ ds → A.units + d.depth < cLine) : SortsAt prog w A s (dataKind s.heap ds) vs := by
  by_cases he : ds.all fullT = true
  · refine SortsAt.data e hal (.inl fun d hd => ?_) hu
    obtain ⟨xs, rfl⟩ := ht d hd
    have := List.all_eq_true.mp he _ hd
    cases xs with
    | nil => cases this
    | cons x r => exact ⟨x, r, rfl⟩
  have he : ds.all fullT = false := by simpa using he
  have room : ∀ {d d' : PyData}, d ∈ ds → A.units + min d.depth d'.depth < cLine := fun {d d'} hd => Nat.lt_of_le_of_lt (Nat.add_le_add_left (Nat.min_le_left _ _) _) (hu d hd)
  refine ⟨fun v hv => ?_, ?_⟩
  · obtain ⟨d, hd, as, r⟩ := e.left v hv
    exact ⟨_, dataKind_some hal hd r⟩
  by_cases hh : ds.head?.map fullT = some true
  · refine ⟨general', fun E x y a b Q ha hb hq => ?_, fun _ E Q hq => tup_kind e ht he (fun _ => hq) fun z => ?_⟩
    · obtain ⟨d, as, hd, ra, rfl⟩ := dataKind_inv ha
      obtain ⟨d', as', hd', rb, rfl⟩ := dataKind_inv hb
      obtain ⟨xs, rfl⟩ := ht d hd
      exact oneLt_alike (f := false) (fun z => (by cases z)) ra rb (hal _ hd _ hd') (fun z => (by cases z)) (room hd) hq
    · rw [hh] at z; cases z
  · refine ⟨oneType', fun E x y a b Q ha hb hq => ?_, fun _ E Q hq => tup_kind e ht he (fun z => absurd z hh) fun _ => hq⟩
    obtain ⟨d, as, hd, ra, rfl⟩ := dataKind_inv ha
    obtain ⟨d', as', hd', rb, rfl⟩ := dataKind_inv hb
    obtain ⟨xs, rfl⟩ := ht d hd
    obtain ⟨ys, rfl⟩ := ht d' hd'
    rw [keyLt'_oneType]
    exact oneLt_tup ra rb (by have := hal _ hd _ hd'; simpa [alike] using this) (room hd) hq
end
end Mir
namespace Mir
open PySem L2

/-! ### sorted -/
def rSortD (K : PySem.W.Frag) : List V → Hp → VK → Prop := fun vs H Q => ∃ (a : Addr) (bs : List (V × PyData)), vs = [.ref a] ∧ SqL K H a (bs.map (·.1)) ∧ (∀ b ∈ bs, Dp K H b.1 b.2) ∧ PySem.W.AllAlike (bs.map (·.2)) ∧ (PySem.W.Sortable (bs.map (·.2)) ∨ ∀ d ∈ bs.map (·.2), ∃ xs, d = PyData.tuple xs) ∧ (∀ b ∈ bs, b.2.depth ≤ 64) ∧
  ∀ p, H p = none → Q (.ref p) (upd H p (.lst ((bs.mergeSort (PySem.W.dataLe false (·.2))).map (·.1))))
section
variable {X : Cx} {pins : List (Addr × Obj)} {σ : L2.St} {H : Hp} {s : Shared}
theorem each_of {bs : List (V × PyData)} : ∀ {us : List Value}, Vals (bs.map (·.1)) us → PySem.W.EachIs (fun u (b : V × PyData) => RelV b.1 u) us bs := by
  induction bs with
  | nil => intro us h; cases h; exact .nil
  | cons b bs ih =>
    intro us h
    cases h with
    | cons r t => exact .cons r (ih t)
theorem of_each {bs : List (V × PyData)} {us : List Value} (h : PySem.W.EachIs (fun u (b : V × PyData) => RelV b.1 u) us bs) : Vals (bs.map (·.1)) us := by
  induction h with
  | nil => exact .nil
  | cons r t ih => exact .cons r ih
theorem each_reads (I : Inv X pins σ H s) : ∀ {bs : List (V × PyData)} {us : List Value}, (∀ b ∈ bs, Dp X.K H b.1 b.2) → Vals (bs.map (·.1)) us → PySem.W.EachIs (fun u (b : V × PyData) => ∃ as, Reads s.heap u b.2 as) us bs
  | [], us, _, h => by cases h; exact .nil
  | b :: bs, us, hd, h => by
    cases h with
    | cons r t => exact .cons (Dp.reads I _ _ _ (hd b List.mem_cons_self) r) (each_reads I (fun c hc => hd c (List.mem_cons_of_mem _ hc)) t)
theorem cr_sortD (hu : X.A.units + 70 < cLine) : CallR X (.builtin "sorted") (rSortD X.K) := by
  intro pins s σ H vs us Q I r h
  obtain ⟨a, bs, rfl, hs, hd, hal, hk, hdep, q⟩ := h
  obtain ⟨its, rv, hl, hz⟩ := I.list hs
  rw [Vals.ref1 r]
  rw [List.length_map] at hz
  have er := each_reads I hd rv
  have er' : PySem.W.EachIs (fun v (b : V × PyData) => ∃ as, Reads (PySem.W.sortingHeap (PySem.W.copyHeap s.heap its) (s.heap.objs.size + 1) its) v b.2 as) its bs := er.mono fun _ _ ⟨as, r⟩ => ⟨as, PyProof.Rows.Reads.keeps (fun _ _ => PySem.W.sorting_copy_old) r⟩
  have em := PySem.W.each_map (R := fun v d => ∃ as, Reads (PySem.W.sortingHeap (PySem.W.copyHeap s.heap its) (s.heap.objs.size + 1) its) v d as) (fun b : V × PyData => b.2) er'
  have hdp : ∀ d ∈ bs.map (·.2), X.A.units + 2 + d.depth < cLine := fun d hd => by
    obtain ⟨b, hb, rfl⟩ := List.mem_map.mp hd
    have := hdep b hb
    omega
  refine PySem.W.sorted_vals (κ := PySem.W.dataKind (PySem.W.sortingHeap (PySem.W.copyHeap s.heap its) (s.heap.objs.size + 1) its) (bs.map (·.2))) hl.isList (by
    rcases hk with hk | hk
    · exact PySem.W.SortsAt.data (s := { s with heap := PySem.W.sortingHeap (PySem.W.copyHeap s.heap its) (s.heap.objs.size + 1) its }) em hal hk hdp
    · exact sortsAt_tups (s := { s with heap := PySem.W.sortingHeap (PySem.W.copyHeap s.heap its) (s.heap.objs.size + 1) its }) em hal hk hdp) (by rw [(each_of rv).length]; exact hz) ?_
  generalize hout : PySem.W.sortVals (PySem.W.dataKind (PySem.W.sortingHeap (PySem.W.copyHeap s.heap its) (s.heap.objs.size + 1) its) (bs.map (·.2))) false its its = out
  have e2 : PySem.W.EachIs (fun u (b : V × PyData) => RelV b.1 u) out (bs.mergeSort (PySem.W.dataLe false (·.2))) := by
    rw [← hout]
    exact PySem.W.sortVals_data false (each_of rv) er' hal
  obtain ⟨ep, he'⟩ := PyProof.Rows.sortedAll_at s.heap its out.toArray
  have hv := of_each e2
  have hlen : ((bs.mergeSort (PySem.W.dataLe false (·.2))).map (·.1)).length ≤ sizeLine := by rw [List.length_map, List.length_mergeSort]; exact hz
  exact ⟨.ref _, upd H (s.heap.objs.size + 1) (.lst ((bs.mergeSort (PySem.W.dataLe false (·.2))).map (·.1))), I.laid (t' := s.toks) (fun _ _ => PyProof.Rows.sortedAll_old) (Nat.le_succ _) ⟨hlen, out, ep, hv, he'⟩, rfl, q _ (I.hok.fresh (Nat.le_succ _))⟩
end
/-- how data of one kind is sorted -/
structure Srt {α : Type} (d : α → PyData) (le : α → α → Bool) : Prop where
  ali : ∀ a b, PySem.W.alike (d a) (d b) = true
  srt : (∀ a, ∃ x r, d a = .tuple (x :: r)) ∨ (∀ a, d a ≠ .none ∧ ∀ xs, d a ≠ .tuple xs) ∨ ∀ a, ∃ xs, d a = .tuple xs
  le : PySem.W.dataLe false d = le
  dep : ∀ a, (d a).depth ≤ 64
def leI (i j : Int) : Bool := decide (i ≤ j)
def leP (p q : Int × Int) : Bool := decide (p.1 < q.1 ∨ (p.1 = q.1 ∧ p.2 ≤ q.2))
theorem srt_int : Srt dI leI := ⟨fun _ _ => by simp [PySem.W.alike], .inr (.inl fun a => ⟨fun z => (by cases z), fun xs z => (by cases z)⟩), PySem.W.dataLe_int (fun i : Int => i), fun _ => by simp [PyData.depth]⟩
theorem srt_pair : Srt (dP dI dI) leP := ⟨fun a b => by simp [dP, PySem.W.alike, PySem.W.alikeAll], .inl fun a => ⟨_, _, rfl⟩, PySem.W.dataLe_ii (fun p : Int × Int => p.1) (fun p => p.2), fun _ => by simp [dP, PyData.depth, PyData.depthAll]⟩
abbrev SrtK {α : Type} (d : α → PyData) : Prop := (∀ a, ∃ x r, d a = .tuple (x :: r)) ∨ (∀ a, d a ≠ .none ∧ ∀ xs, d a ≠ .tuple xs)
theorem srk_int : SrtK dI := .inr fun a => ⟨fun z => (by cases z), fun xs z => (by cases z)⟩
theorem srk_pair : SrtK (dP dI dI) := .inl fun a => ⟨_, _, rfl⟩
section
variable {X : Cx} {α β γ : Type} {a b e : Expr} {ρ : Env} {L : Ow} {p pos : Pos} {d : α → PyData} {d' : β → PyData} {j : Nat}
theorem zip_fst {τ υ : Type} : ∀ {xs : List τ} {ys : List υ}, xs.length = ys.length → (xs.zip ys).map (·.1) = xs
  | [], [], _ => rfl
  | x :: xs, y :: ys, h => by rw [List.zip_cons_cons, List.map_cons, zip_fst (by simpa using h)]
theorem zip_snd {τ υ : Type} : ∀ {xs : List τ} {ys : List υ}, xs.length = ys.length → (xs.zip ys).map (·.2) = ys
  | [], [], _ => rfl
  | x :: xs, y :: ys, h => by rw [List.zip_cons_cons, List.map_cons, zip_snd (by simpa using h)]
theorem zip_mem {τ υ : Type} {R : τ → υ → Prop} : ∀ {xs : List τ} {ys : List υ}, Paired R xs ys → ∀ q ∈ xs.zip ys, R q.1 q.2
  | _, _, .nil, q, h => by simp at h
  | _, _, .cons r t, q, h => by
    rw [List.zip_cons_cons] at h
    rcases List.mem_cons.mp h with e | h
    · rw [e]; exact r
    · exact zip_mem t q h
theorem of_zip {τ υ : Type} {R : τ → υ → Prop} : ∀ {bs : List (τ × υ)}, (∀ q ∈ bs, R q.1 q.2) → Paired R (bs.map (·.1)) (bs.map (·.2))
  | [], _ => .nil
  | b :: bs, h => .cons (h b List.mem_cons_self) (of_zip fun q hq => h q (List.mem_cons_of_mem _ hq))
theorem sort_read {le : α → α → Bool} (hd : Srt d le) {K : PySem.W.Frag} {B F0 : Hp} {σ : L2.St} {H : Hp} {vs : List V} {ds : List Sl} {v : V} {sl : Sl} {xs : List α} {Q : VK} (q : LstOf L sl (xs.map d)) (s : St K B F0 ρ L σ H (v :: vs) (sl :: ds))
    (k : ∀ p H', St K B F0 ρ (L ++ [(p, .lst (((xs.mergeSort le).map d).map .dat))]) σ H' (.ref p :: vs) (.ptr p :: ds) → Q (.ref p) H') : rSortD K [v] H Q := by
  obtain ⟨a, us, rfl, h1, h2, h3, h4⟩ := s.lstOf q
  obtain ⟨F, ok, sl', sv⟩ := id h4
  obtain ⟨sv1, sv2⟩ := pr_split (by rw [List.length_map]; exact h2) sv
  have rp := (dats sv1).paired
  have e1 : (us.zip (xs.map d)).map (·.1) = us := zip_fst h2
  have e2 : (us.zip (xs.map d)).map (·.2) = xs.map d := zip_snd h2
  refine ⟨a, us.zip (xs.map d), rfl, SqL.of (by rw [e1]; exact h1), fun b hb => Rp.dp ok.le _ _ (by
    have hb2 : b.2 ∈ xs.map d := by rw [← e2]; exact List.mem_map_of_mem hb
    obtain ⟨x', _, e⟩ := List.mem_map.mp hb2
    rw [← e]
    exact nod_of_alike _ (hd.ali x' x')) (zip_mem rp b hb), ?_, ?_, fun b hb => ?_, fun p hp => ?_⟩
  · rw [e2]
    intro x hx y hy
    obtain ⟨x', _, rfl⟩ := List.mem_map.mp hx
    obtain ⟨y', _, rfl⟩ := List.mem_map.mp hy
    exact hd.ali x' y'
  · rw [e2]
    rcases hd.srt with h | h | h
    · exact .inl (.inl fun x hx => by obtain ⟨x', _, rfl⟩ := List.mem_map.mp hx; exact h x')
    · exact .inl (.inr fun x hx => by obtain ⟨x', _, rfl⟩ := List.mem_map.mp hx; exact h x')
    · exact .inr fun x hx => by obtain ⟨x', _, rfl⟩ := List.mem_map.mp hx; exact h x'
  · have : b.2 ∈ xs.map d := by rw [← e2]; exact List.mem_map_of_mem hb
    obtain ⟨x', _, e⟩ := List.mem_map.mp this
    rw [← e]
    exact hd.dep x'
  · have e3 : ((us.zip (xs.map d)).mergeSort (PySem.W.dataLe false (·.2))).map (·.2) = (xs.mergeSort le).map d := by
      refine Eq.trans (PySem.W.sort_maps (r := PySem.W.dataLe false (fun b : V × PyData => b.2)) (s := PySem.W.dataLe false (fun x : PyData => x)) (fun b : V × PyData => b.2) (fun _ _ _ _ => rfl)) ?_
      rw [e2, ← hd.le]
      exact (PySem.W.sort_maps (r := PySem.W.dataLe false d) (s := PySem.W.dataLe false (fun x : PyData => x)) d (fun _ _ _ _ => rfl)).symm
    have pz := of_zip (R := fun (v : V) (x : PyData) => Rp F v x) (bs := (us.zip (xs.map d)).mergeSort (PySem.W.dataLe false (·.2))) fun q hq => zip_mem rp q ((List.mergeSort_perm _ _).mem_iff.mp hq)
    rw [e3] at pz
    have hlen : (((us.zip (xs.map d)).mergeSort (PySem.W.dataLe false (·.2))).map (·.1)).length = us.length := by
      rw [List.length_map, List.length_mergeSort, List.length_zip, List.length_map]
      rw [List.length_map] at h2
      omega
    refine k p _ (St.newLst (us := ((us.zip (xs.map d)).mergeSort (PySem.W.dataLe false (·.2))).map (·.1)) ?_ ?_ hp (by rw [hlen]; exact h3))
    · exact ⟨F, ok, sl', pr_app (dats_of (Rps.of pz)) (by cases sv2 with | cons _ t => exact t)⟩
    · rw [hlen, h2]; simp
theorem n_sorted {le : α → α → Bool} {o : Option (List α)} (hd : Srt d le) (hr : Room j X.A) (h : QL X d e ρ L o) (hm : X.mg "sorted" = none) (hs : starEach [e] X.env = (false, eval e X.env) :: starEach [] X.env := by rfl)
    (hh : X.mg "sorted" = none → ∀ {ta}, PE X e ta → X.A.units + 70 < cLine → PE X (.Call (.Name "sorted" p) [e] [] pos) (tCB (rSortD X.K) (tCons ta tNil)) := by intro hm _ h hu; exact pe_callB (cr_sortD hu) (by rfl) hm (by decide +kernel) (pa_cons h pa_nil)) :
    EN X d (.Call (.Name "sorted" p) [e] [] pos) ρ L (o.map fun xs => xs.mergeSort le) := by
  obtain ⟨t, p, h⟩ := h
  refine ⟨_, hh hm p (by have := hr.un; omega), fun z hz B F0 σ H vs ds Q s k => ?_⟩
  obtain ⟨xs, hx, rfl⟩ := Option.map_eq_some_iff.mp hz
  exact h xs hx B F0 σ H vs ds _ s fun v sl H1 q s1 => sort_read hd q s1 k

/-! ### sums, the greatest, the least; list(range(..)) -/
def maxO : List Int → Option Int
  | [] => none
  | x :: xs => some (xs.foldl max x)
def minO : List Int → Option Int
  | [] => none
  | x :: xs => some (xs.foldl min x)
theorem foldl_max_mem : ∀ (xs : List Int) (x : Int), xs.foldl max x ∈ x :: xs ∧ ∀ y ∈ x :: xs, y ≤ xs.foldl max x
  | [], x => by simp
  | z :: xs, x => by
    obtain ⟨h1, h2⟩ := foldl_max_mem xs (max x z)
    refine ⟨?_, fun y hy => ?_⟩
    · rw [List.foldl_cons]
      rcases List.mem_cons.mp h1 with h | h
      · rw [h]
        rcases Int.le_total x z with q | q
        · rw [Int.max_eq_right q]; simp
        · rw [Int.max_eq_left q]; simp
      · exact List.mem_cons_of_mem _ (List.mem_cons_of_mem _ h)
    · rw [List.foldl_cons]
      have h0 := h2 (max x z) List.mem_cons_self
      rcases List.mem_cons.mp hy with rfl | hy
      · exact Int.le_trans (Int.le_max_left _ _) h0
      · rcases List.mem_cons.mp hy with rfl | hy
        · exact Int.le_trans (Int.le_max_right _ _) h0
        · exact h2 y (List.mem_cons_of_mem _ hy)
theorem foldl_min_mem : ∀ (xs : List Int) (x : Int), xs.foldl min x ∈ x :: xs ∧ ∀ y ∈ x :: xs, xs.foldl min x ≤ y
  | [], x => by simp
  | z :: xs, x => by
    obtain ⟨h1, h2⟩ := foldl_min_mem xs (min x z)
    refine ⟨?_, fun y hy => ?_⟩
    · rw [List.foldl_cons]
      rcases List.mem_cons.mp h1 with h | h
      · rw [h]
        rcases Int.le_total x z with q | q
        · rw [Int.min_eq_left q]; simp
        · rw [Int.min_eq_right q]; simp
      · exact List.mem_cons_of_mem _ (List.mem_cons_of_mem _ h)
    · rw [List.foldl_cons]
      have h0 := h2 (min x z) List.mem_cons_self
      rcases List.mem_cons.mp hy with rfl | hy
      · exact Int.le_trans h0 (Int.min_le_left _ _)
      · rcases List.mem_cons.mp hy with rfl | hy
        · exact Int.le_trans h0 (Int.min_le_right _ _)
        · exact h2 y (List.mem_cons_of_mem _ hy)
theorem St.lstInts {K : PySem.W.Frag} {B F0 H : Hp} {σ : L2.St} {vs : List V} {ds : List Sl} {v : V} {s : Sl} {xs : List Int} (q : LstOf L s (xs.map dI)) (h : St K B F0 ρ L σ H (v :: vs) (s :: ds)) : ∃ a, v = .ref a ∧ H a = some (.lst (xs.map V.int)) := by
  obtain ⟨a, us, e, h1, h2, _, h3⟩ := h.lstOf q
  rw [List.length_map] at h2
  have := h3.ints h2
  rw [this] at h1
  exact ⟨a, e, h1⟩
theorem x_sum {o : Option (List Int)} (hc : X.calm = true) (h : QL X dI e ρ L o) (hm : X.mg "sum" = none) (hs : starEach [e] X.env = (false, eval e X.env) :: starEach [] X.env := by rfl)
    (hh : X.mg "sum" = none → ∀ {ta}, PE X e ta → PE X (.Call (.Name "sum" p) [e] [] pos) (tCB (rSum X.K) (tCons ta tNil)) := by intro hm _ h; exact pe_callB (cr_sum rfl) (by rfl) hm (by decide +kernel) (pa_cons h pa_nil)) :
    EX X dI (.Call (.Name "sum" p) [e] [] pos) ρ L (o.map List.sum) := by
  obtain ⟨t, p, h⟩ := h
  refine ⟨_, hh hm p, fun z hz B F0 σ H vs ds Q s k => ?_⟩
  obtain ⟨xs, hx, rfl⟩ := Option.map_eq_some_iff.mp hz
  refine h xs hx B F0 σ H vs ds _ s fun v sl H1 q s1 => ?_
  obtain ⟨a, rfl, h1⟩ := s1.lstInts q
  exact ⟨a, xs, rfl, SqL.of h1, k _ _ s1.pop.int⟩
theorem x_max {o : Option (List Int)} (hc : X.calm = true) (h : QL X dI e ρ L o) (hm : X.mg "max" = none) (hs : starEach [e] X.env = (false, eval e X.env) :: starEach [] X.env := by rfl)
    (hh : X.mg "max" = none → ∀ {ta}, PE X e ta → PE X (.Call (.Name "max" p) [e] [] pos) (tCB (rMax X.K) (tCons ta tNil)) := by intro hm _ h; exact pe_callB (cr_max rfl) (by rfl) hm (by decide +kernel) (pa_cons h pa_nil)) :
    EX X dI (.Call (.Name "max" p) [e] [] pos) ρ L (o.bind maxO) := by
  obtain ⟨t, p, h⟩ := h
  refine ⟨_, hh hm p, fun z hz B F0 σ H vs ds Q s k => ?_⟩
  obtain ⟨xs, hx, hz⟩ := Option.bind_eq_some_iff.mp hz
  refine h xs hx B F0 σ H vs ds _ s fun v sl H1 q s1 => ?_
  obtain ⟨a, rfl, h1⟩ := s1.lstInts q
  cases xs with
  | nil => cases hz
  | cons x xs =>
    have e : xs.foldl max x = z := by simpa [maxO] using hz
    subst e
    refine ⟨a, x :: xs, rfl, SqL.of h1, Nat.zero_lt_succ _, fun m h2 h3 => ?_⟩
    obtain ⟨g1, g2⟩ := foldl_max_mem xs x
    have e : m = xs.foldl max x := Int.le_antisymm (g2 m h2) (h3 _ g1)
    rw [e]
    exact k _ _ s1.pop.int
theorem x_min {o : Option (List Int)} (hc : X.calm = true) (h : QL X dI e ρ L o) (hm : X.mg "min" = none) (hs : starEach [e] X.env = (false, eval e X.env) :: starEach [] X.env := by rfl)
    (hh : X.mg "min" = none → ∀ {ta}, PE X e ta → PE X (.Call (.Name "min" p) [e] [] pos) (tCB (rMin X.K) (tCons ta tNil)) := by intro hm _ h; exact pe_callB (cr_min rfl) (by rfl) hm (by decide +kernel) (pa_cons h pa_nil)) :
    EX X dI (.Call (.Name "min" p) [e] [] pos) ρ L (o.bind minO) := by
  obtain ⟨t, p, h⟩ := h
  refine ⟨_, hh hm p, fun z hz B F0 σ H vs ds Q s k => ?_⟩
  obtain ⟨xs, hx, hz⟩ := Option.bind_eq_some_iff.mp hz
  refine h xs hx B F0 σ H vs ds _ s fun v sl H1 q s1 => ?_
  obtain ⟨a, rfl, h1⟩ := s1.lstInts q
  cases xs with
  | nil => cases hz
  | cons x xs =>
    have e : xs.foldl min x = z := by simpa [minO] using hz
    subst e
    refine ⟨a, x :: xs, rfl, SqL.of h1, Nat.zero_lt_succ _, fun m h2 h3 => ?_⟩
    obtain ⟨g1, g2⟩ := foldl_min_mem xs x
    have e : m = xs.foldl min x := Int.le_antisymm (h3 _ g1) (g2 m h2)
    rw [e]
    exact k _ _ s1.pop.int
/-- built-ins of ints by values -/
def Call1 (K : PySem.W.Frag) (r : List V → Hp → VK → Prop) (d : α → PyData) (f : β → PyData) (g : α → Option β) : Prop :=
  ∀ x z, g x = some z → ∀ B F0 ρ L σ H vs ds v Q, St K B F0 ρ L σ H (v :: vs) (.dat (d x) :: ds) → (∀ w H', St K B F0 ρ L σ H' (w :: vs) (.dat (f z) :: ds) → Q w H') → r [v] H Q
def Call2 (K : PySem.W.Frag) (r : List V → Hp → VK → Prop) (d : α → PyData) (e : β → PyData) (f : γ → PyData) (g : α → β → Option γ) : Prop :=
  ∀ x y z, g x y = some z → ∀ B F0 ρ L σ H vs ds v u Q, St K B F0 ρ L σ H (u :: v :: vs) (.dat (e y) :: .dat (d x) :: ds) → (∀ w H', St K B F0 ρ L σ H' (w :: vs) (.dat (f z) :: ds) → Q w H') → r [v, u] H Q
theorem x_b1 {id : String} {x : Str} {r : List V → Hp → VK → Prop} {g : α → Option β} {o : Option α} (hc : CallR X (.builtin id) r) (hgc : Call1 X.K r d d' g) (h : EX X d e ρ L o) (hm : X.mg x = none) (hv : bootBuiltins x = some (.builtin id)) (hs : starEach [e] X.env = (false, eval e X.env) :: starEach [] X.env := by rfl)
    (hh : CallR X (.builtin id) r → X.mg x = none → bootBuiltins x = some (.builtin id) → ∀ {ta}, PE X e ta → PE X (.Call (.Name x p) [e] [] pos) (tCB r (tCons ta tNil)) := by intro hc hm hv _ h; exact pe_callB hc (by rfl) hm hv (pa_cons h pa_nil)) : EX X d' (.Call (.Name x p) [e] [] pos) ρ L (o.bind g) := by
  obtain ⟨t, q, h⟩ := h
  refine ⟨_, hh hc hm hv q, fun z hz B F0 σ H vs ds Q s k => ?_⟩
  obtain ⟨y, hy, hz⟩ := Option.bind_eq_some_iff.mp hz
  exact h y hy B F0 σ H vs ds _ s fun v H1 s1 => hgc y z hz B F0 ρ L σ H1 vs ds v Q s1 k
theorem x_t1 {T : String} {x : Str} {r : List V → Hp → VK → Prop} {g : α → Option β} {o : Option α} (hc : CallR X (.type T) r) (hgc : Call1 X.K r d d' g) (h : EX X d e ρ L o) (hm : X.mg x = none) (hv : bootBuiltins x = some (.type T)) (hs : starEach [e] X.env = (false, eval e X.env) :: starEach [] X.env := by rfl)
    (hh : CallR X (.type T) r → X.mg x = none → bootBuiltins x = some (.type T) → ∀ {ta}, PE X e ta → PE X (.Call (.Name x p) [e] [] pos) (tCB r (tCons ta tNil)) := by intro hc hm hv _ h; exact pe_callTy hc (by rfl) hm hv (pa_cons h pa_nil)) : EX X d' (.Call (.Name x p) [e] [] pos) ρ L (o.bind g) := by
  obtain ⟨t, q, h⟩ := h
  refine ⟨_, hh hc hm hv q, fun z hz B F0 σ H vs ds Q s k => ?_⟩
  obtain ⟨y, hy, hz⟩ := Option.bind_eq_some_iff.mp hz
  exact h y hy B F0 σ H vs ds _ s fun v H1 s1 => hgc y z hz B F0 ρ L σ H1 vs ds v Q s1 k
theorem x_b2 {id : String} {x : Str} {r : List V → Hp → VK → Prop} {f : γ → PyData} {g : α → β → Option γ} {o : Option α} {o' : Option β} (hc : CallR X (.builtin id) r) (hgc : Call2 X.K r d d' f g) (h : EX X d a ρ L o) (h' : EX X d' b ρ L o') (hm : X.mg x = none) (hv : bootBuiltins x = some (.builtin id))
    (hs : starEach [a, b] X.env = (false, eval a X.env) :: starEach [b] X.env := by rfl) (hs2 : starEach [b] X.env = (false, eval b X.env) :: starEach [] X.env := by rfl)
    (hh : CallR X (.builtin id) r → X.mg x = none → bootBuiltins x = some (.builtin id) → ∀ {ta tb}, PE X a ta → PE X b tb → PE X (.Call (.Name x p) [a, b] [] pos) (tCB r (tCons ta (tCons tb tNil))) := by intro hc hm hv _ _ h h'; exact pe_callB hc (by rfl) hm hv (pa_cons h (pa_cons h' pa_nil))) : EX X f (.Call (.Name x p) [a, b] [] pos) ρ L (o.bind fun x => o'.bind fun y => g x y) := by
  obtain ⟨t, q, h⟩ := h
  obtain ⟨t', q', h'⟩ := h'
  refine ⟨_, hh hc hm hv q q', fun z hz B F0 σ H vs ds Q s k => ?_⟩
  obtain ⟨y, hy, hz⟩ := Option.bind_eq_some_iff.mp hz
  obtain ⟨y', hy', hz⟩ := Option.bind_eq_some_iff.mp hz
  exact h y hy B F0 σ H vs ds _ s fun v H1 s1 => h' y' hy' B F0 σ H1 _ _ _ s1 fun u H2 s2 => hgc y y' z hz B F0 ρ L σ H2 vs ds v u Q s2 k
theorem c_abs {K : PySem.W.Frag} : Call1 K (fun xs H Q => ∃ i, xs = [.int i] ∧ Q (.int (if i < 0 then -i else i)) H) dI dI (fun i => some (if i < 0 then -i else i)) := by
  intro x z hz B F0 ρ L σ H vs ds v Q s k
  cases hz
  exact ⟨x, by rw [s.isInt], k _ _ s.pop.int⟩
theorem c_int {K : PySem.W.Frag} : Call1 K (fun xs H Q => (∃ i, xs = [.int i] ∧ Q (.int i) H) ∨ ∃ k, xs = [.bl k] ∧ Q (.int (if k then 1 else 0)) H) dI dI (fun i => some i) := by
  intro x z hz B F0 ρ L σ H vs ds v Q s k
  cases hz
  exact .inl ⟨x, by rw [s.isInt], k _ _ s.pop.int⟩
theorem c_intB {K : PySem.W.Frag} : Call1 K (fun xs H Q => (∃ i, xs = [.int i] ∧ Q (.int i) H) ∨ ∃ k, xs = [.bl k] ∧ Q (.int (if k then 1 else 0)) H) dB dI (fun i => some (if i then 1 else 0)) := by
  intro x z hz B F0 ρ L σ H vs ds v Q s k
  cases hz
  exact .inr ⟨x, by rw [s.isBl], k _ _ s.pop.int⟩
theorem c_max2 {K : PySem.W.Frag} : Call2 K (fun xs H Q => ∃ i j, xs = [.int i, .int j] ∧ Q (.int (if j > i then j else i)) H) dI dI dI (fun i j => some (max i j)) := by
  intro x y z hz B F0 ρ L σ H vs ds v u Q s k
  cases hz
  refine ⟨x, y, by rw [s.isInt, s.pop.isInt], ?_⟩
  have e : (if y > x then y else x) = max x y := by rw [Int.max_def]; split <;> split <;> omega
  rw [e]
  exact k _ _ s.pop.pop.int
theorem c_min2 {K : PySem.W.Frag} : Call2 K (fun xs H Q => ∃ i j, xs = [.int i, .int j] ∧ Q (.int (if j < i then j else i)) H) dI dI dI (fun i j => some (min i j)) := by
  intro x y z hz B F0 ρ L σ H vs ds v u Q s k
  cases hz
  refine ⟨x, y, by rw [s.isInt, s.pop.isInt], ?_⟩
  have e : (if y < x then y else x) = min x y := by rw [Int.min_def]; split <;> split <;> omega
  rw [e]
  exact k _ _ s.pop.pop.int
theorem rgV_eq (a b : Int) : rgV a b = (rng a b).map V.int := by unfold rgV rng; rw [List.map_map]; rfl
theorem RgOk.of_rngL {a b : Int} {xs : List Int} (h : rngL a b = some xs) : RgOk a b := by
  obtain ⟨h1, h2, h3, _⟩ := rngL_some h
  exact ⟨(bigI_iff h1).1, (bigI_iff h1).2, (bigI_iff h2).1, (bigI_iff h2).2, h3⟩
theorem ints_st {K : PySem.W.Frag} {B F0 H : Hp} {σ : L2.St} {vs : List V} {ds : List Sl} (ns : List Int) (h : St K B F0 ρ L σ H vs ds) : St K B F0 ρ L σ H (ns.map V.int ++ vs) ((ns.map dI).map .dat ++ ds) := h.stack fun F r => pr_app (ints_sv ns) r
theorem n_listRg {o : Option Int} {p2 pos2 : Pos} (hc : X.calm = true) (h : EX X dI e ρ L o) (hm : X.mg "list" = none) (hm2 : X.mg "range" = none) (hg : Gl X "list" := by rfl) (hg2 : Gl X "range" := by rfl) (hs : starEach [e] X.env = (false, eval e X.env) :: starEach [] X.env := by rfl)
    (hs2 : starEach [.Call (.Name "range" p2) [e] [] pos2] X.env = (false, eval (.Call (.Name "range" p2) [e] [] pos2) X.env) :: starEach [] X.env := by rfl) :
    EN X dI (.Call (.Name "list" p) [.Call (.Name "range" p2) [e] [] pos2] [] pos) ρ L (o.bind fun n => rngL 0 n) := by
  obtain ⟨t, q, h⟩ := h
  refine ⟨_, pe_listRg hc hg hm (prg_1 hg2 hm2 q hs) hs2, fun z hz B F0 σ H vs ds Q s k => ?_⟩
  obtain ⟨n, hn, hz⟩ := Option.bind_eq_some_iff.mp hz
  refine h n hn B F0 σ H vs ds _ s fun v H1 s1 => ⟨n, s1.isInt, RgOk.of_rngL hz, fun p hp => ?_⟩
  obtain ⟨_, _, h3, rfl⟩ := rngL_some hz
  rw [rgV_eq]
  exact k p _ (St.newLst (ints_st _ s1.pop) (by simp) hp (by rw [List.length_map, rng_length]; exact Nat.le_trans h3 (by decide)))
theorem n_listRg2 {o o' : Option Int} {p2 pos2 : Pos} (hc : X.calm = true) (h : EX X dI a ρ L o) (h' : EX X dI b ρ L o') (hm : X.mg "list" = none) (hm2 : X.mg "range" = none) (hg : Gl X "list" := by rfl) (hg2 : Gl X "range" := by rfl) (hs : starEach [a, b] X.env = (false, eval a X.env) :: starEach [b] X.env := by rfl) (hs1 : starEach [b] X.env = (false, eval b X.env) :: starEach [] X.env := by rfl)
    (hs3 : (backTo pos2 (starEach [b] X.env)).any (·.1) = false := by rfl) (hs2 : starEach [.Call (.Name "range" p2) [a, b] [] pos2] X.env = (false, eval (.Call (.Name "range" p2) [a, b] [] pos2) X.env) :: starEach [] X.env := by rfl) :
    EN X dI (.Call (.Name "list" p) [.Call (.Name "range" p2) [a, b] [] pos2] [] pos) ρ L (o.bind fun n => o'.bind fun m => rngL n m) := by
  obtain ⟨t, q, h⟩ := h
  obtain ⟨t', q', h'⟩ := h'
  refine ⟨_, pe_listRg hc hg hm (prg_2 hg2 hm2 q q' hs hs1 hs3) hs2, fun z hz B F0 σ H vs ds Q s k => ?_⟩
  obtain ⟨n, hn, hz⟩ := Option.bind_eq_some_iff.mp hz
  obtain ⟨m, hm, hz⟩ := Option.bind_eq_some_iff.mp hz
  refine h n hn B F0 σ H vs ds _ s fun v H1 s1 => h' m hm B F0 σ H1 _ _ _ s1 fun u H2 s2 => ⟨n, m, s1.isInt, s2.isInt, RgOk.of_rngL hz, fun p hp => ?_⟩
  obtain ⟨_, _, h3, rfl⟩ := rngL_some hz
  rw [rgV_eq]
  exact k p _ (St.newLst (ints_st _ s2.pop.pop) (by simp) hp (by rw [List.length_map, rng_length]; exact Nat.le_trans h3 (by decide)))
theorem x_tupRg {o : Option Int} {p2 pos2 : Pos} (hc : X.calm = true) (h : EX X dI e ρ L o) (hm : X.mg "tuple" = none) (hm2 : X.mg "range" = none) (hg : Gl X "tuple" := by rfl) (hg2 : Gl X "range" := by rfl) (hs : starEach [e] X.env = (false, eval e X.env) :: starEach [] X.env := by rfl)
    (hs2 : starEach [.Call (.Name "range" p2) [e] [] pos2] X.env = (false, eval (.Call (.Name "range" p2) [e] [] pos2) X.env) :: starEach [] X.env := by rfl) :
    EX X (dT dI) (.Call (.Name "tuple" p) [.Call (.Name "range" p2) [e] [] pos2] [] pos) ρ L (o.bind fun n => rngL 0 n) := by
  obtain ⟨t, q, h⟩ := h
  refine ⟨_, pe_tupRg hc hg hm (prg_1 hg2 hm2 q hs) hs2, fun z hz B F0 σ H vs ds Q s k => ?_⟩
  obtain ⟨n, hn, hz⟩ := Option.bind_eq_some_iff.mp hz
  refine h n hn B F0 σ H vs ds _ s fun v H1 s1 => ⟨n, s1.isInt, RgOk.of_rngL hz, fun p hp => ?_⟩
  obtain ⟨_, _, h3, rfl⟩ := rngL_some hz
  rw [rgV_eq]
  exact k _ _ (St.newTup (ints_st _ s1.pop) (by simp) hp (by rw [List.length_map, rng_length]; exact Nat.le_trans h3 (by decide)))
/-- isinstance(x, bool) of a bool, of an int -/
theorem isi_bool {K : PySem.W.Frag} : PySem.W.kitOne K (.type "bool") (.type "bool") = some true := by unfold PySem.W.kitOne; rw [if_pos (by decide)]
theorem x_isBool {o : Option Bool} {p2 : Pos} (h : EX X dB e ρ L o) (hm : X.mg "isinstance" = none) (hm2 : X.mg "bool" = none) (hg2 : Gl X "bool" := by rfl) (hs : starEach [e, .Name "bool" p2] X.env = (false, eval e X.env) :: starEach [.Name "bool" p2] X.env := by rfl) (hs2 : starEach [.Name "bool" p2] X.env = (false, eval (.Name "bool" p2) X.env) :: starEach [] X.env := by rfl)
    (hh : X.mg "isinstance" = none → ∀ {t}, PA X [e, .Name "bool" p2] t → PE X (.Call (.Name "isinstance" p) [e, .Name "bool" p2] [] pos) (tCB (rIsi X.K) t) := by intro hm _ h; exact pe_callB call_isi (by rfl) hm (by decide +kernel) h) :
    EX X dB (.Call (.Name "isinstance" p) [e, .Name "bool" p2] [] pos) ρ L (o.map fun _ => true) := by
  obtain ⟨t, q, h⟩ := h
  refine ⟨_, hh hm (pa_cons q (pa_cons (pe_bltn (v := .ty "bool") hg2 hm2 (by decide +kernel) rfl) pa_nil hs2) hs), fun z hz B F0 σ H vs ds Q s k => ?_⟩
  obtain ⟨y, hy, rfl⟩ := Option.map_eq_some_iff.mp hz
  refine h y hy B F0 σ H vs ds _ s fun v H1 s1 => ?_
  rw [s1.isBl]
  exact ⟨_, _, _, _, true, rfl, .ty "bool", .base (.bl y), isi_bool, k _ _ s1.pop.bl⟩
end
end Mir
namespace Mir
open PySem L2

/-! ### mirrors of what is written -/
noncomputable def appO {α : Type} (xs : List α) (a : α) : Option (List α) := @ite _ (xs.length < sizeLine) (Classical.propDecidable _) (some (xs ++ [a])) none
def setO {α : Type} (xs : List α) (i : Int) (a : α) : Option (List α) := (ixN xs.length i).map fun j => xs.set j a
def dget {κ ν : Type} [DecidableEq κ] (kvs : List (κ × ν)) (k : κ) : Option ν := (kvs.find? fun q => decide (q.1 = k)).map (·.2)
def dput {κ ν : Type} [DecidableEq κ] (kvs : List (κ × ν)) (k : κ) (v : ν) : List (κ × ν) :=
  if (kvs.any fun q => decide (q.1 = k)) = true then kvs.map (fun q => if q.1 = k then (q.1, v) else q) else kvs ++ [(k, v)]
noncomputable def dputO {κ ν : Type} [DecidableEq κ] (kvs : List (κ × ν)) (k : κ) (v : ν) : Option (List (κ × ν)) := @ite _ (kvs.length < sizeLine) (Classical.propDecidable _) (some (dput kvs k v)) none
abbrev odL {α : Type} (d : α → PyData) (xs : List α) : OD := .lst ((xs.map d).map .dat)
def encK {κ ν : Type} (dk : κ → PyData) (dv : ν → PyData) (q : κ × ν) : PyData × Sl := (dk q.1, .dat (dv q.2))
abbrev odK {κ ν : Type} (t : Bool) (dk : κ → PyData) (dv : ν → PyData) (kvs : List (κ × ν)) : OD := .dic t (kvs.map (encK dk dv))

/-! ### what is owned, by its place -/
theorem ow_split : ∀ {L : Ow} {j : Nat} {q : Addr × OD}, L[j]? = some q → ∀ q', L = L.take j ++ q :: L.drop (j + 1) ∧ L.set j q' = L.take j ++ q' :: L.drop (j + 1)
  | [], j, q, h, _ => by simp at h
  | a :: L, 0, q, h, q' => by
    have e : a = q := by simpa using h
    subst e
    exact ⟨rfl, rfl⟩
  | a :: L, j + 1, q, h, q' => by
    obtain ⟨e1, e2⟩ := ow_split (L := L) (j := j) (q := q) (by simpa using h) q'
    exact ⟨by rw [List.take_succ_cons, List.drop_succ_cons, List.cons_append, ← e1], by rw [List.set_cons_succ, List.take_succ_cons, List.drop_succ_cons, List.cons_append, ← e2]⟩
section
variable {K : PySem.W.Frag} {F F' F0 B H H' : Hp} {L : Ow} {ρ : Env} {σ : L2.St} {vs : List V} {ds : List Sl} {p : Addr} {o : HO} {j : Nat}
theorem Ok.at_ {d : OD} (k : Ok K B F0 F H L) (h : L[j]? = some (p, d)) : ORep K F H p d := (k.own _ (List.mem_of_getElem? h)).2.2
theorem Ok.put {d d' : OD} (k : Ok K B F0 F H L) (h : L[j]? = some (p, d)) (z : SzO o) (r : ORep K F (upd H p o) p d') : Ok K B F0 F (upd H p o) (L.set j (p, d')) := by
  obtain ⟨e1, e2⟩ := ow_split h (p, d')
  rw [e2]
  rw [e1] at k
  exact k.write z r
theorem mem_at {α : Type} {L : List α} {q : α} (h : L[j]? = some q) : q ∈ L := List.mem_of_getElem? h
end

/-! ### a list's methods and items -/
section
variable {X : Cx} {α β γ κ ν : Type} {a b e o i : Expr} {ρ : Env} {L : Ow} {pos cpos apos p2 : Pos} {d : α → PyData} {d' : β → PyData} {j k : Nat} {p : Addr}
/-- xs.append(e) -/
theorem s_append {xs : List α} {oe : Option α} (j : Nat) (hL : L[j]? = some (p, odL d xs)) (ho : ES X o ρ L (some (.ptr p))) (h : EX X d e ρ L oe) (hs : swapsWith (.Call (.Attribute o "append" apos) [e] [] cpos) none pos.line X.env = pure false := by rfl)
    (hh : ∀ {to te}, PE X o to → PE X e te → PE X (.Call (.Attribute o "append" apos) [e] [] cpos) (tBM X.K "list" rAppend to (tCons te tNil)) := by intro _ _ h1 h2; exact pe_bm PySem.F.plainAttrs_list PySem.F.slot_list_append PySem.F.type_list_append mt_append h1 (pa_cons h2 pa_nil)) :
    SX X (.Expr (.Call (.Attribute o "append" apos) [e] [] cpos) pos) ρ L (oe.bind fun a => appO xs a) (ocn fun ys => (ρ, L.set j (p, odL d ys))) := by
  obtain ⟨to, po, ho⟩ := ho
  obtain ⟨te, pe, h⟩ := h
  refine ⟨_, ps_expr (hh po pe) hs, fun ys hy B F0 σ H vs ds D s q => ?_⟩
  obtain ⟨a, ha, hy⟩ := Option.bind_eq_some_iff.mp hy
  unfold appO at hy
  split at hy
  · rename_i hl
    cases hy
    refine ho _ rfl B F0 σ H vs ds _ s fun v H1 s1 => ?_
    obtain ⟨us1, g1, _, _, _⟩ := s1.own1 (mem_at hL)
    have ev := s1.isPtr
    subst ev
    refine ⟨.inl ⟨rfl, _, SqL.of g1⟩, h a ha B F0 σ H1 _ _ _ s1 fun u H2 s2 => ?_⟩
    obtain ⟨F, ok, sl, sv⟩ := s2
    obtain ⟨us, g2, g3⟩ := ok.at_ hL
    have hlen : us.length = xs.length := by rw [Paired.length g3, List.length_map, List.length_map]
    cases sv with
    | cons r t =>
      cases t with
      | cons r2 t =>
        refine ⟨p, us, u, rfl, rfl, g2, by omega, q _ _ ⟨F, ok.put hL (d' := odL d (xs ++ [a])) (o := .lst (us ++ [u])) (by show (us ++ [u]).length ≤ sizeLine; rw [List.length_append]; show us.length + 1 ≤ sizeLine; omega) ⟨_, upd_same, ?_⟩, sl, t⟩⟩
        rw [List.map_append, List.map_append]
        exact pr_app g3 (.cons r .nil)
  · cases hy
/-- xs[i] = e -/
theorem s_setI {xs : List α} {oe : Option α} {oi : Option Int} {tpos : Pos} (j : Nat) (hL : L[j]? = some (p, odL d xs)) (ho : ES X o ρ L (some (.ptr p))) (hi : EX X dI i ρ L oi) (h : EX X d e ρ L oe)
    (hs : swapsWithSole [.Subscript o i tpos] e pos.line X.env = pure false := by rfl) (hw : swappedStores [.Subscript o i tpos] e X.env = pure none := by rfl) (h1 : (assignEach [.Subscript o i tpos] X.env).map (·.2) = [assign (.Subscript o i tpos) X.env] := by rfl)
    (hg : ∀ {to ti}, PE X o to → PE X i ti → PG X (.Subscript o i tpos) (gSub to ti rSetL) := by intro _ _ h1 h2; exact pg_sub h1 h2 set_list) :
    SX X (.Assign [.Subscript o i tpos] e pos) ρ L (oe.bind fun a => oi.bind fun n => setO xs n a) (ocn fun ys => (ρ, L.set j (p, odL d ys))) := by
  obtain ⟨to, po, ho⟩ := ho
  obtain ⟨ti, pi, hi⟩ := hi
  obtain ⟨te, pe, h⟩ := h
  refine ⟨_, ps_asg pe (hg po pi) hs hw h1, fun ys hy B F0 σ H vs ds D s q => ?_⟩
  obtain ⟨a, ha, hy⟩ := Option.bind_eq_some_iff.mp hy
  obtain ⟨n, hn, hy⟩ := Option.bind_eq_some_iff.mp hy
  obtain ⟨m, hm, rfl⟩ := Option.map_eq_some_iff.mp hy
  refine h a ha B F0 σ H vs ds _ s fun u H1 s1 => ho _ rfl B F0 σ H1 _ _ _ s1 fun v H2 s2 => hi n hn B F0 σ H2 _ _ _ s2 fun w H3 s3 => ?_
  have ew := s3.isInt
  have ev := s3.pop.isPtr
  obtain ⟨F, ok, sl, sv⟩ := s3.pop.pop
  obtain ⟨us, g2, g3⟩ := ok.at_ hL
  have hlen : us.length = xs.length := by rw [Paired.length g3, List.length_map, List.length_map]
  have hz := ok.sz _ _ g2
  cases sv with
  | cons r t =>
    refine ⟨p, us, n, m, ev, ew, g2, by rw [hlen]; exact hm, q _ _ ⟨F, ok.put hL (d' := odL d (xs.set m a)) (o := .lst (us.set m u)) (by show (us.set m u).length ≤ sizeLine; rw [List.length_set]; exact hz) ⟨_, upd_same, ?_⟩, sl, t⟩⟩
    rw [List.map_set, List.map_set]
    exact pr_set r m g3
/-- .. as a target -/
def g_setI_ : Unit := ()

/-! ### dicts -/
/-- keys: ints (or texts); tuples of them -/
structure Ky {κ Y : Type} (c : Y → PyData) (dk : κ → PyData) (f : κ → Y) : Prop where
  eq : ∀ k, dk k = c (f k)
  inj : ∀ a b, f a = f b → a = b
theorem kD_inj {a b : Key} (h : kD a = kD b) : a = b := by
  cases a with
  | inl i => cases b with
    | inl j => injection h with h; rw [h]
    | inr y => cases h
  | inr x => cases b with
    | inl j => cases h
    | inr y => injection h with h; rw [h]
theorem kTD_inj {a b : List Key} (h : kTD a = kTD b) : a = b := by
  have h' : a.map kD = b.map kD := by
    unfold kTD at h
    injection h
  clear h
  induction a generalizing b with
  | nil => cases b with
    | nil => rfl
    | cons y ys => simp at h'
  | cons x xs ih => cases b with
    | nil => simp at h'
    | cons y ys =>
      rw [List.map_cons, List.map_cons, List.cons.injEq] at h'
      rw [kD_inj h'.1, ih h'.2]
theorem ky_int : Ky kD dI (fun i : Int => .inl i) := ⟨fun _ => rfl, fun a b h => Sum.inl.inj h⟩
theorem ky_pair : Ky kTD (dP dI dI) (fun p : Int × Int => [Sum.inl p.1, Sum.inl p.2]) := ⟨fun _ => rfl, fun a b h => by
  simp only [List.cons.injEq, Sum.inl.injEq, and_true] at h
  exact Prod.ext h.1 h.2⟩
theorem ky_ints : Ky kTD (dT dI) (fun xs : List Int => xs.map Sum.inl) := ⟨fun xs => by unfold dT kTD; rw [List.map_map]; rfl, fun a b h => by
  induction a generalizing b with
  | nil => cases b with
    | nil => rfl
    | cons y ys => simp at h
  | cons x xs ih => cases b with
    | nil => simp at h
    | cons y ys =>
      rw [List.map_cons, List.map_cons, List.cons.injEq] at h
      rw [Sum.inl.inj h.1, ih _ h.2]⟩
theorem ky_3 : Ky kTD (dP3 dI dI dI) (fun p : Int × Int × Int => [Sum.inl p.1, Sum.inl p.2.1, Sum.inl p.2.2]) := ⟨fun _ => rfl, fun a b h => by
  simp only [List.cons.injEq, Sum.inl.injEq, and_true] at h
  exact Prod.ext h.1 (Prod.ext h.2.1 h.2.2)⟩
section
variable {K : PySem.W.Frag} {F H : Hp} {Y : Type} [DecidableEq Y] [DecidableEq κ] {c : Y → PyData} {dk : κ → PyData} {dv : ν → PyData} {f : κ → Y}
def DR (K : PySem.W.Frag) (c : Y → PyData) (F : Hp) : List (Y × V) → List (PyData × Sl) → Prop := Paired fun p q => q.1 = c p.1 ∧ SvR K F p.2 q.2
theorem dr_key (hc : ∀ a b, c a = c b → a = b) (ky : Ky c dk f) {y : Y} {k : κ} (h : dk k = c y) : y = f k := hc _ _ (h.symm.trans (ky.eq k))
theorem dr_get (hc : ∀ a b, c a = c b → a = b) (ky : Ky c dk f) (k : κ) : ∀ {ws : List (Y × V)} {kvs : List (κ × ν)}, DR K c F ws (kvs.map (encK dk dv)) →
    (∀ x, dget kvs k = some x → ∃ v, valV ws (f k) = some v ∧ SvR K F v (.dat (dv x))) ∧ (dget kvs k = none → valV ws (f k) = none)
  | ws, [], h => by
    cases h
    exact ⟨fun x e => (by simp [dget] at e), fun _ => rfl⟩
  | ws, q :: kvs, h => by
    cases h with
    | @cons w _ ws' _ r t =>
      obtain ⟨i1, i2⟩ := dr_get hc ky k t
      have hy : w.1 = f q.1 := dr_key hc ky r.1
      by_cases e : q.1 = k
      · have e2 : w.1 = f k := by rw [hy, e]
        refine ⟨fun x h => ⟨w.2, valV_pos e2, ?_⟩, fun h => ?_⟩
        · have h' : q.2 = x := by simpa [dget, List.find?_cons, e] using h
          rw [← h']
          exact r.2
        · simp [dget, List.find?_cons, e] at h
      · have e2 : ¬ w.1 = f k := fun z => e (ky.inj _ _ (hy.symm.trans z))
        have hd : dget (q :: kvs) k = dget kvs k := by simp [dget, List.find?_cons, e]
        rw [hd, valV_neg e2]
        exact ⟨i1, i2⟩
theorem dr_any (hc : ∀ a b, c a = c b → a = b) (ky : Ky c dk f) (k : κ) : ∀ {ws : List (Y × V)} {kvs : List (κ × ν)}, DR K c F ws (kvs.map (encK dk dv)) →
    (ws.any fun q => decide (q.1 = f k)) = (kvs.any fun q => decide (q.1 = k))
  | ws, [], h => by cases h; rfl
  | ws, q :: kvs, h => by
    cases h with
    | @cons w _ ws' _ r t =>
      have hy : w.1 = f q.1 := dr_key hc ky r.1
      rw [List.any_cons, List.any_cons, dr_any hc ky k t]
      congr 1
      by_cases e : q.1 = k
      · rw [decide_eq_true e, decide_eq_true (by rw [hy, e])]
      · rw [decide_eq_false e, decide_eq_false fun z => e (ky.inj _ _ (hy.symm.trans z))]
theorem dr_map (hc : ∀ a b, c a = c b → a = b) (ky : Ky c dk f) (k : κ) {x : ν} {v : V} (rv : SvR K F v (.dat (dv x))) : ∀ {ws : List (Y × V)} {kvs : List (κ × ν)}, DR K c F ws (kvs.map (encK dk dv)) →
    DR K c F (ws.map fun q => if q.1 = f k then (q.1, v) else q) ((kvs.map fun q => if q.1 = k then (q.1, x) else q).map (encK dk dv))
  | ws, [], h => by cases h; exact .nil
  | ws, q :: kvs, h => by
    cases h with
    | @cons w _ ws' _ r t =>
      have hy : w.1 = f q.1 := dr_key hc ky r.1
      refine .cons ?_ (dr_map hc ky k rv t)
      dsimp only
      by_cases e : q.1 = k
      · rw [if_pos e, if_pos (show w.1 = f k by rw [hy, e])]
        exact ⟨r.1, rv⟩
      · rw [if_neg e, if_neg (show ¬ w.1 = f k from fun z => e (ky.inj _ _ (hy.symm.trans z)))]
        exact r
theorem dr_put (hc : ∀ a b, c a = c b → a = b) (ky : Ky c dk f) (k : κ) {x : ν} {v : V} (rv : SvR K F v (.dat (dv x))) {ws : List (Y × V)} {kvs : List (κ × ν)} (h : DR K c F ws (kvs.map (encK dk dv))) : DR K c F (putK ws (f k) v) ((dput kvs k x).map (encK dk dv)) := by
  unfold putK dput
  rw [dr_any hc ky k h]
  split
  · exact dr_map hc ky k rv h
  · rw [List.map_append]
    exact pr_app h (.cons ⟨ky.eq k, rv⟩ .nil)
theorem dput_length (kvs : List (κ × ν)) (k : κ) (v : ν) : (dput kvs k v).length ≤ kvs.length + 1 := by
  unfold dput
  split
  · rw [List.length_map]; omega
  · rw [List.length_append]; exact Nat.le_refl _
end
/-- a key on the stack -/
theorem rp_kD {F : Hp} {v : V} {y : Key} (h : Rp F v (kD y)) : v = kV y := by
  cases y with
  | inl i => cases (show Rp F v (.int i) from h); rfl
  | inr x => cases (show Rp F v (.str x) from h); rfl
theorem rps_kD {F : Hp} : ∀ {ys : List Key} {us : List V}, Rps F us (ys.map kD) → us = ys.map kV
  | [], _, h => by cases h; rfl
  | y :: ys, _, h => by
    cases h with
    | cons r t => rw [rp_kD r, rps_kD t]; rfl
theorem rp_kTD {F : Hp} {v : V} {ys : List Key} (h : Rp F v (kTD ys)) : ∃ q, v = .ref q ∧ F q = some (.tup (ys.map kV)) := by
  cases (show Rp F v (.tuple (ys.map kD)) from h) with
  | tup h1 h2 => exact ⟨_, rfl, by rw [← rps_kD h2]; exact h1⟩
/-- which of both kinds: t tells -/
inductive KyB {κ : Type} (dk : κ → PyData) : Bool → Prop
  | k {f : κ → Key} : Ky kD dk f → KyB dk false
  | t {f : κ → List Key} : Ky kTD dk f → KyB dk true
theorem od_get [DecidableEq κ] {t : Bool} {dk : κ → PyData} {dv : ν → PyData} {K : PySem.W.Frag} {F H : Hp} {p : Addr} {kvs : List (κ × ν)} {k : κ} {y : V} (kb : KyB dk t) (h : ORep K F H p (odK t dk dv kvs)) (le : Same F H) (r : Rp F y (dk k)) :
    (∀ x, dget kvs k = some x → ∃ v, DGet H p y (some v) ∧ SvR K F v (.dat (dv x))) ∧ (dget kvs k = none → DGet H p y none) := by
  cases kb with
  | @k f ky =>
    obtain ⟨ws, h1, h2⟩ := h
    obtain ⟨g1, g2⟩ := dr_get (c := kD) (fun _ _ => kD_inj) ky k h2
    rw [ky.eq] at r
    have ey := rp_kD r
    subst ey
    refine ⟨fun x hx => ?_, fun hn => ?_⟩
    · obtain ⟨v, e, rv⟩ := g1 x hx
      exact ⟨v, by rw [← e]; exact DGet.k h1, rv⟩
    · rw [← g2 hn]; exact DGet.k h1
  | @t f ky =>
    obtain ⟨ws, h1, h2⟩ := h
    obtain ⟨g1, g2⟩ := dr_get (c := kTD) (fun _ _ => kTD_inj) ky k h2
    rw [ky.eq] at r
    obtain ⟨q, rfl, hq⟩ := rp_kTD r
    refine ⟨fun x hx => ?_, fun hn => ?_⟩
    · obtain ⟨v, e, rv⟩ := g1 x hx
      exact ⟨v, by rw [← e]; exact DGet.t h1 (le _ _ hq), rv⟩
    · rw [← g2 hn]; exact DGet.t h1 (le _ _ hq)
theorem od_put [DecidableEq κ] {t : Bool} {dk : κ → PyData} {dv : ν → PyData} {K : PySem.W.Frag} {F H : Hp} {p : Addr} {kvs : List (κ × ν)} {k : κ} {x : ν} {y v : V} (kb : KyB dk t) (h : ORep K F H p (odK t dk dv kvs)) (le : Same F H) (r : Rp F y (dk k)) (rv : SvR K F v (.dat (dv x))) (hl : kvs.length < sizeLine) :
    ∃ o, DPut H p y v (upd H p o) ∧ SzO o ∧ ORep K F (upd H p o) p (odK t dk dv (dput kvs k x)) := by
  have hd := dput_length kvs k x
  cases kb with
  | @k f ky =>
    obtain ⟨ws, h1, h2⟩ := h
    rw [ky.eq] at r
    have ey := rp_kD r
    subst ey
    have hw : ws.length = kvs.length := by have := Paired.length h2; rw [List.length_map] at this; exact this
    have h3 := dr_put (c := kD) (fun _ _ => kD_inj) ky k rv h2
    have hw2 := Paired.length h3
    rw [List.length_map] at hw2
    exact ⟨_, DPut.k h1 (by omega), by show (putK ws (f k) v).length ≤ sizeLine; omega, _, upd_same, h3⟩
  | @t f ky =>
    obtain ⟨ws, h1, h2⟩ := h
    rw [ky.eq] at r
    obtain ⟨q, rfl, hq⟩ := rp_kTD r
    have hw : ws.length = kvs.length := by have := Paired.length h2; rw [List.length_map] at this; exact this
    have h3 := dr_put (c := kTD) (fun _ _ => kTD_inj) ky k rv h2
    have hw2 := Paired.length h3
    rw [List.length_map] at hw2
    exact ⟨_, DPut.t h1 (le _ _ hq) (by omega), by show (putK ws (f k) v).length ≤ sizeLine; omega, _, upd_same, h3⟩
/-- {} -/
theorem e_dictK (dk : κ → PyData) (dv : ν → PyData) : EO X (odK false dk dv) (.Dict [] [] pos) ρ L (some []) :=
  ⟨_, pe_dnewK, fun a ha B F0 σ H vs ds Q s k => by
    cases ha
    intro p hp
    obtain ⟨F, ok, sl, sv⟩ := s
    exact k p _ ⟨F, ok.alloc (o := .dK []) hp (Nat.zero_le _) ⟨[], upd_same, .nil⟩, sl, .cons rfl sv⟩⟩
theorem e_dictT (dk : κ → PyData) (dv : ν → PyData) : EO X (odK true dk dv) (.Dict [] [] pos) ρ L (some []) :=
  ⟨_, pe_dnewT, fun a ha B F0 σ H vs ds Q s k => by
    cases ha
    intro p hp
    obtain ⟨F, ok, sl, sv⟩ := s
    exact k p _ ⟨F, ok.alloc (o := .dT []) hp (Nat.zero_le _) ⟨[], upd_same, .nil⟩, sl, .cons rfl sv⟩⟩
variable [DecidableEq κ] {t : Bool} {dk : κ → PyData} {dv : ν → PyData} {kvs : List (κ × ν)} {n : Nat}
/-- d[k] -/
theorem x_dget {ok : Option κ} (j : Nat) (kb : KyB dk t) (hr : Room n X.A) (hL : L[j]? = some (p, odK t dk dv kvs)) (ho : ES X o ρ L (some (.ptr p))) (hi : EX X dk i ρ L ok) (hs : NoSl i := by intro _ _; rfl) : EX X dv (.Subscript o i pos) ρ L (ok.bind fun k => dget kvs k) := by
  obtain ⟨to, po, ho⟩ := ho
  obtain ⟨ti, pi, hi⟩ := hi
  refine ⟨_, pe_dget (hu_of hr) po pi hs, fun z hz B F0 σ H vs ds Q s q => ?_⟩
  obtain ⟨y, hy, hz⟩ := Option.bind_eq_some_iff.mp hz
  refine ho _ rfl B F0 σ H vs ds _ s fun v H1 s1 => hi y hy B F0 σ H1 _ _ _ s1 fun u H2 s2 => ?_
  obtain ⟨F, ok, sl, sv⟩ := s2
  cases sv with
  | cons r t =>
    cases t with
    | cons r2 t =>
      obtain ⟨w, g, rw'⟩ := (od_get kb (ok.at_ hL) ok.le r).1 z hz
      exact ⟨p, w, r2, g, q w H2 ⟨F, ok, sl, .cons rw' t⟩⟩
/-- k in d, k not in d -/
theorem din_core (kb : KyB dk t) (hL : L[j]? = some (p, odK t dk dv kvs)) {B F0 : Hp} {σ : L2.St} {H : Hp} {u v : V} {y : κ} {vs : List V} {ds : List Sl} (s : St X.K B F0 ρ L σ H (v :: u :: vs) (.ptr p :: .dat (dk y) :: ds)) : v = .ref p ∧ ∃ o, DGet H p u o ∧ o.isSome = (dget kvs y).isSome := by
  obtain ⟨F, ok, sl, sv⟩ := s
  cases sv with
  | cons r2 t =>
    cases t with
    | cons r t =>
      obtain ⟨g1, g2⟩ := od_get kb (ok.at_ hL) ok.le r
      refine ⟨r2, ?_⟩
      cases e : dget kvs y with
      | none => exact ⟨none, g2 e, rfl⟩
      | some x =>
        obtain ⟨w, g, _⟩ := g1 x e
        exact ⟨some w, g, rfl⟩
theorem x_din {ok : Option κ} (j : Nat) (kb : KyB dk t) (hr : Room n X.A) (hL : L[j]? = some (p, odK t dk dv kvs)) (hi : EX X dk i ρ L ok) (ho : ES X o ρ L (some (.ptr p))) (hm : behindInMarks .In o = false := by rfl) : EX X dB (.Compare i [.In] [o] pos) ρ L (ok.map fun k => (dget kvs k).isSome) := by
  obtain ⟨to, po, ho⟩ := ho
  obtain ⟨ti, pi, hi⟩ := hi
  refine ⟨_, pe_cmp (pc_din (hu_of hr) pi po) hm, fun z hz B F0 σ H vs ds Q s q => ?_⟩
  obtain ⟨y, hy, rfl⟩ := Option.map_eq_some_iff.mp hz
  refine hi y hy B F0 σ H vs ds _ s fun u H1 s1 => ho _ rfl B F0 σ H1 _ _ _ s1 fun v H2 s2 => ?_
  obtain ⟨e, o, g, eo⟩ := din_core kb hL s2
  exact ⟨p, o, e, g, by rw [eo]; exact q _ _ s2.pop.pop.bl⟩
theorem x_dnotIn {ok : Option κ} (j : Nat) (kb : KyB dk t) (hr : Room n X.A) (hL : L[j]? = some (p, odK t dk dv kvs)) (hi : EX X dk i ρ L ok) (ho : ES X o ρ L (some (.ptr p))) (hm : behindInMarks .NotIn o = false := by rfl) : EX X dB (.Compare i [.NotIn] [o] pos) ρ L (ok.map fun k => !(dget kvs k).isSome) := by
  obtain ⟨to, po, ho⟩ := ho
  obtain ⟨ti, pi, hi⟩ := hi
  refine ⟨_, pe_cmp (pc_dnotin (hu_of hr) pi po) hm, fun z hz B F0 σ H vs ds Q s q => ?_⟩
  obtain ⟨y, hy, rfl⟩ := Option.map_eq_some_iff.mp hz
  refine hi y hy B F0 σ H vs ds _ s fun u H1 s1 => ho _ rfl B F0 σ H1 _ _ _ s1 fun v H2 s2 => ?_
  obtain ⟨e, o, g, eo⟩ := din_core kb hL s2
  exact ⟨p, o, e, g, by rw [eo]; exact q _ _ s2.pop.pop.bl⟩
theorem t_din {ok : Option κ} (j : Nat) (kb : KyB dk t) (hr : Room n X.A) (hL : L[j]? = some (p, odK t dk dv kvs)) (hi : EX X dk i ρ L ok) (ho : ES X o ρ L (some (.ptr p))) (hm : behindInMarks .In o = false := by rfl) : TX X (.Compare i [.In] [o] pos) ρ L (ok.map fun k => (dget kvs k).isSome) := by
  obtain ⟨to, po, ho⟩ := ho
  obtain ⟨ti, pi, hi⟩ := hi
  refine ⟨_, pt_cmp (pc_din (hu_of hr) pi po) hm, fun z hz B F0 σ H vs ds Q s q => ?_⟩
  obtain ⟨y, hy, rfl⟩ := Option.map_eq_some_iff.mp hz
  refine hi y hy B F0 σ H vs ds _ s fun u H1 s1 => ho _ rfl B F0 σ H1 _ _ _ s1 fun v H2 s2 => ?_
  obtain ⟨e, o, g, eo⟩ := din_core kb hL s2
  exact ⟨p, o, e, g, _, rfl, by rw [eo]; exact q _ s2.pop.pop⟩
theorem t_dnotIn {ok : Option κ} (j : Nat) (kb : KyB dk t) (hr : Room n X.A) (hL : L[j]? = some (p, odK t dk dv kvs)) (hi : EX X dk i ρ L ok) (ho : ES X o ρ L (some (.ptr p))) (hm : behindInMarks .NotIn o = false := by rfl) : TX X (.Compare i [.NotIn] [o] pos) ρ L (ok.map fun k => !(dget kvs k).isSome) := by
  obtain ⟨to, po, ho⟩ := ho
  obtain ⟨ti, pi, hi⟩ := hi
  refine ⟨_, pt_cmp (pc_dnotin (hu_of hr) pi po) hm, fun z hz B F0 σ H vs ds Q s q => ?_⟩
  obtain ⟨y, hy, rfl⟩ := Option.map_eq_some_iff.mp hz
  refine hi y hy B F0 σ H vs ds _ s fun u H1 s1 => ho _ rfl B F0 σ H1 _ _ _ s1 fun v H2 s2 => ?_
  obtain ⟨e, o, g, eo⟩ := din_core kb hL s2
  exact ⟨p, o, e, g, _, rfl, by rw [eo]; exact q _ s2.pop.pop⟩
/-- d[k] = e -/
theorem s_dput {ok : Option κ} {oe : Option ν} {tpos : Pos} (j : Nat) (kb : KyB dk t) (hr : Room n X.A) (hL : L[j]? = some (p, odK t dk dv kvs)) (ho : ES X o ρ L (some (.ptr p))) (hi : EX X dk i ρ L ok) (h : EX X dv e ρ L oe) (hs : swapsWith e (some (.Subscript o i tpos)) pos.line X.env = pure false := by rfl) :
    SX X (.Assign [.Subscript o i tpos] e pos) ρ L (oe.bind fun x => ok.bind fun k => dputO kvs k x) (ocn fun kvs => (ρ, L.set j (p, odK t dk dv kvs))) := by
  obtain ⟨to, po, ho⟩ := ho
  obtain ⟨ti, pi, hi⟩ := hi
  obtain ⟨te, pe, h⟩ := h
  refine ⟨_, ps_dput (hu_of hr) po pi pe hs, fun z hz B F0 σ H vs ds D s q => ?_⟩
  obtain ⟨x, hx, hz⟩ := Option.bind_eq_some_iff.mp hz
  obtain ⟨y, hy, hz⟩ := Option.bind_eq_some_iff.mp hz
  unfold dputO at hz
  split at hz
  · rename_i hl
    cases hz
    refine h x hx B F0 σ H vs ds _ s fun w H1 s1 => ho _ rfl B F0 σ H1 _ _ _ s1 fun v H2 s2 => hi y hy B F0 σ H2 _ _ _ s2 fun u H3 s3 => ?_
    obtain ⟨F, ok, sl, sv⟩ := s3
    cases sv with
    | cons r t =>
      cases t with
      | cons r2 t =>
        cases t with
        | cons r3 t =>
          obtain ⟨o', g1, g2, g3⟩ := od_put kb (ok.at_ hL) ok.le r r3 hl
          exact ⟨p, _, r2, g1, q _ _ ⟨F, ok.put hL g2 g3, sl, t⟩⟩
  · cases hz
/-- .. in a world that turns -/
theorem s_dputM {W : Type} {Lf : W → Ow} {w0 : W} {kvf : W → List (κ × ν)} {mk : ν → W → Option (κ × W)} {me : Option (ν × W)} {tpos : Pos} (j : Nat) (kb : KyB dk t) (hr : Room n X.A) (hL : ∀ w, (Lf w)[j]? = some (p, odK t dk dv (kvf w))) (ho : ∀ w, ES X o ρ (Lf w) (some (.ptr p))) (hi : ∀ x w, EM X dk i ρ Lf w (mk x w)) (h : EM X dv e ρ Lf w0 me)
    (hs : swapsWith e (some (.Subscript o i tpos)) pos.line X.env = pure false := by rfl) :
    SX X (.Assign [.Subscript o i tpos] e pos) ρ (Lf w0) (me.bind fun x => (mk x.1 x.2).bind fun k => (dputO (kvf k.2) k.1 x.1).map fun q => (q, k.2)) (ocn fun q => (ρ, (Lf q.2).set j (p, odK t dk dv q.1))) := by
  obtain ⟨to, po, ho⟩ : ∃ to, PE X o to ∧ ∀ w, ∀ B F0 σ H vs ds Q, St X.K B F0 ρ (Lf w) σ H vs ds → (∀ v H', St X.K B F0 ρ (Lf w) σ H' (v :: vs) (.ptr p :: ds) → Q v H') → to σ H Q := by
    refine ⟨fun σ H Q => ∃ w B F0 vs ds, St X.K B F0 ρ (Lf w) σ H vs ds ∧ ∀ v H', St X.K B F0 ρ (Lf w) σ H' (v :: vs) (.ptr p :: ds) → Q v H', ⟨fun pins s σ H Q I h => ?_⟩, fun w B F0 σ H vs ds Q s k => ⟨w, B, F0, vs, ds, s, k⟩⟩
    obtain ⟨w, B, F0, vs, ds, st, k⟩ := h
    obtain ⟨tb, pb, hb⟩ := ho w
    exact pb.run pins s σ H Q I (hb _ rfl B F0 σ H vs ds Q st k)
  obtain ⟨ti, pi, hi⟩ : ∃ tb, PE X i tb ∧ ∀ x w1, ∀ a w', mk x w1 = some (a, w') → ∀ B F0 σ H vs ds Q, St X.K B F0 ρ (Lf w1) σ H vs ds → (∀ v H', St X.K B F0 ρ (Lf w') σ H' (v :: vs) (.dat (dk a) :: ds) → Q v H') → tb σ H Q := by
    refine ⟨fun σ H Q => ∃ x w1 a w' B F0 vs ds, mk x w1 = some (a, w') ∧ St X.K B F0 ρ (Lf w1) σ H vs ds ∧ ∀ v H', St X.K B F0 ρ (Lf w') σ H' (v :: vs) (.dat (dk a) :: ds) → Q v H', ⟨fun pins s σ H Q I h => ?_⟩, fun x w1 a w' e B F0 σ H vs ds Q s k => ⟨x, w1, a, w', B, F0, vs, ds, e, s, k⟩⟩
    obtain ⟨x, w1, a, w', B, F0, vs, ds, e, st, k⟩ := h
    obtain ⟨tb, pb, hb⟩ := hi x w1
    exact pb.run pins s σ H Q I (hb a w' e B F0 σ H vs ds Q st k)
  obtain ⟨te, pe, h⟩ := h
  refine ⟨_, ps_dput (hu_of hr) po pi pe hs, fun z hz B F0 σ H vs ds D s q => ?_⟩
  obtain ⟨⟨x, w1⟩, hx, hz⟩ := Option.bind_eq_some_iff.mp hz
  obtain ⟨⟨y, w2⟩, hy, hz⟩ := Option.bind_eq_some_iff.mp hz
  obtain ⟨kv', hz, rfl⟩ := Option.map_eq_some_iff.mp hz
  unfold dputO at hz
  split at hz
  · rename_i hl
    cases hz
    refine h x w1 hx B F0 σ H vs ds _ s fun w H1 s1 => ho w1 B F0 σ H1 _ _ _ s1 fun v H2 s2 => hi x w1 y w2 hy B F0 σ H2 _ _ _ s2 fun u H3 s3 => ?_
    obtain ⟨F, ok, sl, sv⟩ := s3
    cases sv with
    | cons r t =>
      cases t with
      | cons r2 t =>
        cases t with
        | cons r3 t =>
          obtain ⟨o', g1, g2, g3⟩ := od_put kb (ok.at_ (hL w2)) ok.le r r3 hl
          exact ⟨p, _, r2, g1, q _ _ ⟨F, ok.put (hL w2) g2 g3, sl, t⟩⟩
  · cases hz
end
end Mir
namespace Mir
open PySem L2

/-! ### displays of one kind -/
section
variable {X : Cx} {α β γ W : Type} {e a b c : Expr} {es : List Expr} {ρ : Env} {L : Ow} {pos : Pos} {d : α → PyData} {oa ob : Option α}
def AH (X : Cx) {α : Type} (d : α → PyData) (es : List Expr) (ρ : Env) (L : Ow) (o : Option (List α)) : Prop := AX X (encH d) es ρ L o ∧ ∀ xs, o = some xs → xs.length = es.length
theorem h_nil : AH X d [] ρ L (some []) := ⟨ah_nil, fun xs h => by cases h; rfl⟩
theorem h_cons {os : Option (List α)} (ha : EX X d e ρ L oa) (hr : AH X d es ρ L os) (hs : starEach (e :: es) X.env = (false, eval e X.env) :: starEach es X.env := by rfl) :
    AH X d (e :: es) ρ L (oa.bind fun x => os.bind fun y => some (x :: y)) := ⟨ah_cons ha hr.1 hs, fun xs h => by
  obtain ⟨x, hx, h⟩ := Option.bind_eq_some_iff.mp h
  obtain ⟨y, hy, h⟩ := Option.bind_eq_some_iff.mp h
  cases h
  rw [List.length_cons, List.length_cons, hr.2 y hy]⟩
theorem x_th {k} {os : Option (List α)} (h : AH X d es ρ L os) (hz : es.length ≤ 1000 := by exact Nat.le_of_ble_eq_true rfl) : EX X (dT d) (.Tuple es k pos) ρ L os := x_tupH h.1 fun xs e => by rw [h.2 xs e]; exact hz
theorem n_lh {os : Option (List α)} (h : AH X d es ρ L os) (hz : es.length ≤ 1000 := by exact Nat.le_of_ble_eq_true rfl) : EN X d (.List es pos) ρ L os := n_lst h.1 fun xs e => by rw [h.2 xs e]; exact hz
/-- return e, the block's outcome its value -/
theorem b_retr {o : Option α} {rd : Rd α} {L1 L2 : Ow} (h : EX X d e ρ L o) (hrd : ∀ a, rd a = (.dat (d a), L1) := by intro _; rfl) (hL : L = L1 ++ L2 := by rfl) : BX X [.Return (some e) pos] ρ L o (ocr rd) := by
  obtain ⟨t, p, h⟩ := h
  refine ⟨_, pss_one (ps_ret p), fun a ha B F0 σ H vs ds D s q => ?_⟩
  have q' : Good X.K B F0 vs ds D (.rt (rd a).1 (rd a).2) := q
  rw [hrd] at q'
  subst hL
  exact h a ha B F0 σ H vs ds _ s fun v H' s' => q' v H' s'.part.noslots
theorem b_retM {W : Type} {Lf : W → Ow} {w : W} {Lr : Ow} {o : Option (α × W)} {rd : Rd (α × W)} (h : EM X d e ρ (fun w => Lf w ++ Lr) w o) (hrd : ∀ a, rd a = (.dat (d a.1), Lf a.2) := by intro _; rfl) : BX X [.Return (some e) pos] ρ (Lf w ++ Lr) o (ocr rd) := by
  obtain ⟨t, p, h⟩ := h
  refine ⟨_, pss_one (ps_ret p), fun a ha B F0 σ H vs ds D s q => ?_⟩
  have q' : Good X.K B F0 vs ds D (.rt (rd a).1 (rd a).2) := q
  rw [hrd] at q'
  exact h a.1 a.2 ha B F0 σ H vs ds _ s fun v H' s' => q' v H' (St.part (L1 := Lf a.2) s').noslots
end

/-! ### a def's promise by its mirror -/
def startE (N : List Str) (ss : List Sl) : Env := ss.map some ++ List.replicate (N.length - ss.length) none
section
variable {P : Program} {w : World} {K : PySem.W.Frag} {mg : Str → Option Value} {base : Heap}
theorem start_pr {F : Hp} {N : List Str} {vs : List V} {ss : List Sl} (h : Paired (SvR K F) vs ss) : Paired (SlR K F) (L2.start N vs) (startE N ss) := by
  unfold L2.start startE
  have e := Paired.length h
  rw [e]
  refine pr_app ?_ ?_
  · clear e
    induction h with
    | nil => exact .nil
    | cons r t ih => exact .cons r ih
  · induction (N.length - ss.length) with
    | zero => exact .nil
    | succ n ih => exact .cons trivial ih
theorem knows_fn {α β : Type} {x qual : Str} {st : Stmt} {f : Addr} {fd : FuncData} {N ps : List Str} {k : Nat} {enc : α → List Sl} {dR : β → PyData} {m : α → Option β} (F : Fun K x qual st f fd) (hm : mg x = some (.ref f)) (hb : Binds K fd ps []) (S : FnScope N ps (defScope st)) (hl : ∀ a, (enc a).length = ps.length)
    (body : ∀ (cdv : Value) (A : Around) (outer : List PySem.Env) (s : Shared) (H : Hp) (E : XK), Room k (A.deeper (PyProof.Rows.envOfC qual (defScope st) s.heap.objs.size f cdv)) → ∀ a, BX (cxOf CX0 P w K mg base N qual (defScope st) f cdv A outer s H E).nox (defBody st) (startE N (enc a)) [] (m a) (ocr fun r => (.dat (dR r), []))) :
    Knows P w K mg base x (k + 1) ps (spP K enc dR m) := by
  refine ⟨f, fd, F.ok S (fun vs H Q E h => ?_) (fun cdv A outer s H vs Q E hr h => ?_), hm, F.kp, hb⟩
  · obtain ⟨a, r, F', _, _, hv, _⟩ := h
    rw [Paired.length hv]
    exact hl a
  · obtain ⟨a, r, F', hm, ok, hv, q⟩ := h
    obtain ⟨t, p, hb⟩ := body cdv A outer s H E hr a
    refine ⟨t, p, hb r hm H F' _ H [] [] _ ⟨F', ok, start_pr hv, .nil⟩ ?_⟩
    rintro v H' ⟨F2, ok2, _, sv⟩
    cases sv with
    | cons r2 t2 => exact q v F2 H' ok2 r2
theorem knows_fnW {α β W : Type} {x qual : Str} {st : Stmt} {f : Addr} {fd : FuncData} {N ps : List Str} {k : Nat} {I : Type} {enc : I → α → List Sl} {dR : β → PyData} {Lf : I → W → Ow} {m : α → W → Option (β × W)} (F : Fun K x qual st f fd) (hm : mg x = some (.ref f)) (hb : Binds K fd ps []) (S : FnScope N ps (defScope st)) (hl : ∀ i a, (enc i a).length = ps.length)
    (body : ∀ (cdv : Value) (A : Around) (outer : List PySem.Env) (s : Shared) (H : Hp) (E : XK), Room k (A.deeper (PyProof.Rows.envOfC qual (defScope st) s.heap.objs.size f cdv)) → ∀ i a w', BX (cxOf CX0 P w K mg base N qual (defScope st) f cdv A outer s H E).nox (defBody st) (startE N (enc i a)) (Lf i w') (m a w') (ocr fun r => (.dat (dR r.1), Lf i r.2))) :
    Knows P w K mg base x (k + 1) ps (fun vs H Q E => ∃ i, spG K (enc i) dR (Lf i) m vs H Q E) := by
  refine ⟨f, fd, F.ok S (fun vs H Q E h => ?_) (fun cdv A outer s H vs Q E hr h => ?_), hm, F.kp, hb⟩
  · obtain ⟨i, a, _, r, _, _, F', _, _, hv, _⟩ := h
    rw [Paired.length hv]
    exact hl i a
  · obtain ⟨i, a, w1, r, w2, B, F', hm, ok, hv, q⟩ := h
    obtain ⟨t, p, hb⟩ := body cdv A outer s H E hr i a w1
    refine ⟨t, p, hb (r, w2) hm B F' _ H [] [] _ ⟨F', ok, start_pr hv, .nil⟩ ?_⟩
    rintro v H' ⟨F2, ok2, _, sv⟩
    cases sv with
    | cons r2 t2 => exact q v F2 H' ok2 r2
theorem Knows.imp {x : Str} {k : Nat} {ps : List Str} {sp sp' : Sp} (h : Knows P w K mg base x k ps sp) (e : ∀ vs H Q E, sp' vs H Q E → sp vs H Q E) : Knows P w K mg base x k ps sp' :=
  let ⟨f, fd, a, b, c, d⟩ := h; ⟨f, fd, a.imp e, b, c, d⟩
theorem Knows.at_ {α β W I : Type} {enc : I → α → List Sl} {dR : β → PyData} {Lf : I → W → Ow} {m : α → W → Option (β × W)} {x : Str} {k : Nat} {ps : List Str} (h : Knows P w K mg base x k ps (fun vs H Q E => ∃ i, spG K (enc i) dR (Lf i) m vs H Q E)) (i : I) : Knows P w K mg base x k ps (spG K (enc i) dR (Lf i) m) :=
  h.imp fun _ _ _ _ q => ⟨i, q⟩
end

/-! ### assignments to several names at once -/
section
variable {X : Cx} {α β γ S : Type} {a b c e : Expr} {ρ ρ' : Env} {L : Ow} {pos px py pz pt pt2 : Pos} {kt k2 : Nat} {d : α → PyData} {d' : β → PyData} {f : γ → PyData} {oa : Option α} {ob : Option β} {oc' : Option γ} {x y z : Str} {rest : List Stmt} {δ : Type} {oc : δ → Oc}
/-- x, y = a, b -/
theorem s_par (i j : Nat) (hc : X.calm = true) (hN : X.N.Nodup) (ha : EX X d a ρ L oa) (hb : EX X d' b ρ L ob) (hij : i ≠ j := by decide) (hi : X.N[i]? = some x := by rfl) (hj : X.N[j]? = some y := by rfl)
    (hx : X.env.scope.names.lookup x = some .local := by rfl) (hy : X.env.scope.names.lookup y = some .local := by rfl) (h1 : starEach [a, b] X.env = (false, eval a X.env) :: starEach [b] X.env := by rfl) (h2 : starEach [b] X.env = (false, eval b X.env) :: starEach [] X.env := by rfl)
    (hw : swappedStores [.Tuple [.Name x px, .Name y py] kt pt] (.Tuple [a, b] k2 pt2) X.env = pure (some [x, y]) := by rfl)
    (hs : swapsWithSole [.Tuple [.Name x px, .Name y py] kt pt] (.Tuple [a, b] k2 pt2) pos.line X.env = pure false := by rfl) :
    SX X (.Assign [.Tuple [.Name x px, .Name y py] kt pt] (.Tuple [a, b] k2 pt2) pos) ρ L (oa.bind fun u => ob.bind fun v => some (u, v)) (ocn fun q => ((ρ.set i (some (.dat (d q.1)))).set j (some (.dat (d' q.2))), L)) := by
  obtain ⟨ta, pa, ha⟩ := ha
  obtain ⟨tb, pb, hb⟩ := hb
  refine ⟨_, ps_par hc hN hi hj hij hx hy (pa_cons pa (pa_cons pb pa_nil h2) h1) hw hs, fun q hq B F0 σ H vs ds D s g => ?_⟩
  obtain ⟨u, hu, hq⟩ := Option.bind_eq_some_iff.mp hq
  obtain ⟨v, hv, hq⟩ := Option.bind_eq_some_iff.mp hq
  cases hq
  refine ha u hu B F0 σ H vs ds _ s fun x1 H1 s1 => hb v hv B F0 σ H1 _ _ _ s1 fun y1 H2 s2 => ⟨x1, y1, rfl, g _ _ ?_⟩
  exact St.store j (St.store i s2.swap)
/-- x, y = a new owned object, b -/
theorem b_parO {od : α → OD} {k : α → β → Option δ} (i j : Nat) (hc : X.calm = true) (hN : X.N.Nodup) (ha : EO X od a ρ L oa) (hb : ∀ p u, EX X d' b ρ (L ++ [(p, od u)]) ob) (hr : ∀ p u v, BX X rest ((ρ.set i (some (.ptr p))).set j (some (.dat (d' v)))) (L ++ [(p, od u)]) (k u v) oc) (hij : i ≠ j := by decide) (hi : X.N[i]? = some x := by rfl) (hj : X.N[j]? = some y := by rfl)
    (hx : X.env.scope.names.lookup x = some .local := by rfl) (hy : X.env.scope.names.lookup y = some .local := by rfl) (h1 : starEach [a, b] X.env = (false, eval a X.env) :: starEach [b] X.env := by rfl) (h2 : starEach [b] X.env = (false, eval b X.env) :: starEach [] X.env := by rfl)
    (hw : swappedStores [.Tuple [.Name x px, .Name y py] kt pt] (.Tuple [a, b] k2 pt2) X.env = pure (some [x, y]) := by rfl)
    (hs : swapsWithSole [.Tuple [.Name x px, .Name y py] kt pt] (.Tuple [a, b] k2 pt2) pos.line X.env = pure false := by rfl) :
    BX X (.Assign [.Tuple [.Name x px, .Name y py] kt pt] (.Tuple [a, b] k2 pt2) pos :: rest) ρ L (oa.bind fun u => ob.bind fun v => k u v) oc := by
  obtain ⟨ta, pa, ha⟩ := ha
  obtain ⟨tb, pb, hb⟩ := EX.all (S := Addr × α) (ρf := fun _ => ρ) (Lf := fun q => L ++ [(q.1, od q.2)]) (k := fun _ => ob) fun q => hb q.1 q.2
  obtain ⟨t', p', hr⟩ := BX.all (S := Addr × α × β) (ρf := fun q => (ρ.set i (some (.ptr q.1))).set j (some (.dat (d' q.2.2)))) (Lf := fun q => L ++ [(q.1, od q.2.1)]) (k := fun q => k q.2.1 q.2.2) (fun q => hr q.1 q.2.1 q.2.2)
  refine ⟨_, pss_cons (ps_par hc hN hi hj hij hx hy (pa_cons pa (pa_cons pb pa_nil h2) h1) hw hs) p', fun q hq B F0 σ H vs ds D s g => ?_⟩
  obtain ⟨u, hu, hq⟩ := Option.bind_eq_some_iff.mp hq
  obtain ⟨v, hv, hq⟩ := Option.bind_eq_some_iff.mp hq
  refine ha u hu B F0 σ H vs ds _ s fun p1 H1 s1 => hb (p1, u) v hv B F0 σ H1 _ _ _ s1 fun y1 H2 s2 => ⟨.ref p1, y1, rfl, hr (p1, u, v) q hq B F0 _ _ vs ds D ?_ g⟩
  exact St.store j (St.store i s2.swap)
/-- x, y, z = two new owned objects, c -/
theorem b_par3OO {oda : α → OD} {odb : β → OD} {k : α → β → γ → Option δ} (i j l : Nat) (hc : X.calm = true) (hN : X.N.Nodup) (ha : EO X oda a ρ L oa) (hb : ∀ p u, EO X odb b ρ (L ++ [(p, oda u)]) ob) (hd : ∀ p u q v, EX X f c ρ ((L ++ [(p, oda u)]) ++ [(q, odb v)]) oc')
    (hr : ∀ p u q v w, BX X rest (((ρ.set i (some (.ptr p))).set j (some (.ptr q))).set l (some (.dat (f w)))) ((L ++ [(p, oda u)]) ++ [(q, odb v)]) (k u v w) oc) (hij : i ≠ j := by decide) (hil : i ≠ l := by decide) (hjl : j ≠ l := by decide) (hi : X.N[i]? = some x := by rfl) (hj : X.N[j]? = some y := by rfl) (hl : X.N[l]? = some z := by rfl)
    (hx : X.env.scope.names.lookup x = some .local := by rfl) (hy : X.env.scope.names.lookup y = some .local := by rfl) (hz : X.env.scope.names.lookup z = some .local := by rfl) (h1 : starEach [a, b, c] X.env = (false, eval a X.env) :: starEach [b, c] X.env := by rfl) (h2 : starEach [b, c] X.env = (false, eval b X.env) :: starEach [c] X.env := by rfl) (h3 : starEach [c] X.env = (false, eval c X.env) :: starEach [] X.env := by rfl)
    (hw : swappedStores [.Tuple [.Name x px, .Name y py, .Name z pz] kt pt] (.Tuple [a, b, c] k2 pt2) X.env = pure (some [x, y, z]) := by rfl)
    (hs : swapsWithSole [.Tuple [.Name x px, .Name y py, .Name z pz] kt pt] (.Tuple [a, b, c] k2 pt2) pos.line X.env = pure false := by rfl) :
    BX X (.Assign [.Tuple [.Name x px, .Name y py, .Name z pz] kt pt] (.Tuple [a, b, c] k2 pt2) pos :: rest) ρ L (oa.bind fun u => ob.bind fun v => oc'.bind fun w => k u v w) oc := by
  obtain ⟨ta, pa, ha⟩ := ha
  obtain ⟨tb, pb, hb⟩ : ∃ tb, PE X b tb ∧ ∀ p u v, ob = some v → ∀ B F0 σ H vs ds Q, St X.K B F0 ρ (L ++ [(p, oda u)]) σ H vs ds → (∀ q H', St X.K B F0 ρ ((L ++ [(p, oda u)]) ++ [(q, odb v)]) σ H' (.ref q :: vs) (.ptr q :: ds) → Q (.ref q) H') → tb σ H Q := by
    refine ⟨fun σ H Q => ∃ p u v B F0 vs ds, ob = some v ∧ St X.K B F0 ρ (L ++ [(p, oda u)]) σ H vs ds ∧ ∀ q H', St X.K B F0 ρ ((L ++ [(p, oda u)]) ++ [(q, odb v)]) σ H' (.ref q :: vs) (.ptr q :: ds) → Q (.ref q) H', ⟨fun pins s σ H Q I h => ?_⟩, fun p u v e B F0 σ H vs ds Q s k => ⟨p, u, v, B, F0, vs, ds, e, s, k⟩⟩
    obtain ⟨p, u, v, B, F0, vs, ds, e, st, k⟩ := h
    obtain ⟨tb, pb, hb⟩ := hb p u
    exact pb.run pins s σ H Q I (hb v e B F0 σ H vs ds Q st k)
  obtain ⟨tc, pc, hd⟩ := EX.all (S := Addr × α × Addr × β) (ρf := fun _ => ρ) (Lf := fun q => (L ++ [(q.1, oda q.2.1)]) ++ [(q.2.2.1, odb q.2.2.2)]) (k := fun _ => oc') fun q => hd q.1 q.2.1 q.2.2.1 q.2.2.2
  obtain ⟨t', p', hr⟩ := BX.all (S := Addr × α × Addr × β × γ) (ρf := fun q => ((ρ.set i (some (.ptr q.1))).set j (some (.ptr q.2.2.1))).set l (some (.dat (f q.2.2.2.2)))) (Lf := fun q => (L ++ [(q.1, oda q.2.1)]) ++ [(q.2.2.1, odb q.2.2.2.1)]) (k := fun q => k q.2.1 q.2.2.2.1 q.2.2.2.2) (fun q => hr q.1 q.2.1 q.2.2.1 q.2.2.2.1 q.2.2.2.2)
  refine ⟨_, pss_cons (ps_par3 hc hN hi hj hl hij hil hjl hx hy hz (pa_cons pa (pa_cons pb (pa_cons pc pa_nil h3) h2) h1) hw hs) p', fun q hq B F0 σ H vs ds D s g => ?_⟩
  obtain ⟨u, hu, hq⟩ := Option.bind_eq_some_iff.mp hq
  obtain ⟨v, hv, hq⟩ := Option.bind_eq_some_iff.mp hq
  obtain ⟨w, hw', hq⟩ := Option.bind_eq_some_iff.mp hq
  refine ha u hu B F0 σ H vs ds _ s fun p1 H1 s1 => hb p1 u v hv B F0 σ H1 _ _ _ s1 fun q1 H2 s2 => hd (p1, u, q1, v) w hw' B F0 σ H2 _ _ _ s2 fun y1 H3 s3 => ⟨.ref p1, .ref q1, y1, rfl, hr (p1, u, q1, v, w) q hq B F0 _ _ vs ds D ?_ g⟩
  have s4 : St X.K B F0 ρ ((L ++ [(p1, oda u)]) ++ [(q1, odb v)]) σ H3 (.ref p1 :: .ref q1 :: y1 :: vs) (.ptr p1 :: .ptr q1 :: .dat (f w) :: ds) := s3.stack fun F r => by
    cases r with | cons r1 t => cases t with | cons r2 t => cases t with | cons r3 t => exact .cons r3 (.cons r2 (.cons r1 t))
  exact St.store l (St.store j (St.store i s4))
end
end Mir
namespace Mir
open PySem L2

/-! ### by a written positive number -/
section
variable {X : Cx} {α β γ δ κ ν W S : Type} {e a b c o i : Expr} {es rest : List Stmt} {ρ ρ' : Env} {L : Ow} {pos px p2 tpos apos cpos : Pos} {d : α → PyData} {d' : β → PyData} {f : γ → PyData} {oc : δ → Oc} {p : Addr} {j n : Nat}
theorem x_modL {k : Int} {q : Nat} {oa : Option Int} (ha : EX X dI a ρ L oa) (hk : (0 : Int) < k := by decide) : EX X dI (.BinOp a .Mod (.Constant (.int k) q p2) pos) ρ L (oa.map (· % k)) := by
  obtain ⟨ta, pa, ha⟩ := ha
  refine ⟨_, pe_op op_mod pa pe_int, fun z hz B F0 σ H vs ds Q s r => ?_⟩
  obtain ⟨x, hx, rfl⟩ := Option.map_eq_some_iff.mp hz
  exact ha x hx B F0 σ H vs ds _ s fun v H1 s1 => ⟨x, k, s1.isInt, rfl, hk, r _ _ s1.pop.int⟩
theorem x_divL {k : Int} {q : Nat} {oa : Option Int} (ha : EX X dI a ρ L oa) (hk : (0 : Int) < k ∧ k < 1073741824 := by decide) : EX X dI (.BinOp a .FloorDiv (.Constant (.int k) q p2) pos) ρ L (oa.map (· / k)) := by
  obtain ⟨ta, pa, ha⟩ := ha
  refine ⟨_, pe_op op_fdiv pa pe_int, fun z hz B F0 σ H vs ds Q s r => ?_⟩
  obtain ⟨x, hx, rfl⟩ := Option.map_eq_some_iff.mp hz
  exact ha x hx B F0 σ H vs ds _ s fun v H1 s1 => ⟨x, k, s1.isInt, rfl, hk, r _ _ s1.pop.int⟩
theorem x_mulL {k : Int} {q : Nat} {oa : Option Int} (ha : EX X dI a ρ L oa) (hk : smallI k = true := by rfl) : EX X dI (.BinOp a .Mult (.Constant (.int k) q p2) pos) ρ L (oa.map (· * k)) := by
  obtain ⟨ta, pa, ha⟩ := ha
  refine ⟨_, pe_op op_mul pa pe_int, fun z hz B F0 σ H vs ds Q s r => ?_⟩
  obtain ⟨x, hx, rfl⟩ := Option.map_eq_some_iff.mp hz
  exact ha x hx B F0 σ H vs ds _ s fun v H1 s1 => ⟨x, k, s1.isInt, rfl, .inr (smallI_iff.mp hk), r _ _ s1.pop.int⟩
theorem x_mulLl {k : Int} {q : Nat} {oa : Option Int} (ha : EX X dI a ρ L oa) (hk : smallI k = true := by rfl) : EX X dI (.BinOp (.Constant (.int k) q p2) .Mult a pos) ρ L (oa.map (k * ·)) := by
  obtain ⟨ta, pa, ha⟩ := ha
  refine ⟨_, pe_op op_mul pe_int pa, fun z hz B F0 σ H vs ds Q s r => ?_⟩
  obtain ⟨x, hx, rfl⟩ := Option.map_eq_some_iff.mp hz
  exact ha x hx B F0 σ H (.int k :: vs) (.dat (.int k) :: ds) _ s.int fun v H1 s1 => ⟨k, x, rfl, s1.isInt, .inl (smallI_iff.mp hk), r _ _ s1.pop.pop.int⟩

/-! ### slots of any kind -/
theorem s_setS {sl : Sl} (i : Nat) {x : Str} (hN : X.N.Nodup) (h : ES X e ρ L (some sl)) (hs : swapsWith e (some (.Name x px)) pos.line X.env = pure false := by rfl) (hi : X.N[i]? = some x := by rfl) (hx : Loc X.env.scope x := by first | exact Or.inl rfl | exact Or.inr rfl) (hf : X.fn x = true ∨ X.env.scope.names.lookup x = some .local := by first | exact .inl rfl | exact .inr rfl) :
    SX X (.Assign [.Name x px] e pos) ρ L (some ()) (ocn fun _ => (ρ.set i (some sl), L)) := by
  obtain ⟨t, p, h⟩ := h
  exact ⟨_, ps_set hN hi hx p hs hf, fun a ha B F0 σ H vs ds D s q => h _ rfl B F0 σ H vs ds _ s fun v H1 s1 => q _ _ (s1.store i)⟩
/-- o[k], an item of an owned list of any slots -/
theorem s_ixO {sls : List Sl} {sl : Sl} {k : Int} {q : Nat} (j : Nat) (hL : L[j]? = some (p, .lst sls)) (ho : ES X o ρ L (some (.ptr p))) (hk : atI sls k = some sl) (hs : PlainIx (.Constant (.int k) q p2) := by intro _ _; rfl) : ES X (.Subscript o (.Constant (.int k) q p2) pos) ρ L (some sl) := by
  obtain ⟨t, po, ho⟩ := ho
  refine ⟨_, pe_ix ix_list po pe_int hs, fun z hz B F0 σ H vs ds Q s r => ?_⟩
  cases hz
  refine ho _ rfl B F0 σ H vs ds _ s fun v H1 s1 => ?_
  have ev := s1.isPtr
  obtain ⟨F, ok, sl', sv⟩ := s1
  obtain ⟨us, g2, g3⟩ := ok.at_ hL
  obtain ⟨w, hw, rw'⟩ := pr_atI g3 hk
  exact ⟨p, us, k, w, ev, rfl, SqL.of g2, hw, r w H1 ⟨F, ok, sl', by cases sv with | cons _ t => exact .cons rw' t⟩⟩
/-- o[k] = e, such an item stored -/
theorem s_setIO {sls : List Sl} {k : Int} {q : Nat} {oe : Option α} {m : Nat} (j : Nat) (hL : L[j]? = some (p, .lst sls)) (ho : ES X o ρ L (some (.ptr p))) (h : EX X d e ρ L oe) (hm : ixN sls.length k = some m)
    (hs : swapsWithSole [.Subscript o (.Constant (.int k) q p2) tpos] e pos.line X.env = pure false := by rfl) (hw : swappedStores [.Subscript o (.Constant (.int k) q p2) tpos] e X.env = pure none := by rfl) (h1 : (assignEach [.Subscript o (.Constant (.int k) q p2) tpos] X.env).map (·.2) = [assign (.Subscript o (.Constant (.int k) q p2) tpos) X.env] := by rfl)
    (hg : ∀ {to}, PE X o to → PG X (.Subscript o (.Constant (.int k) q p2) tpos) (gSub to (tC (.int k)) rSetL) := by intro _ h1; exact pg_sub h1 pe_int set_list) :
    SX X (.Assign [.Subscript o (.Constant (.int k) q p2) tpos] e pos) ρ L oe (ocn fun a => (ρ, L.set j (p, .lst (sls.set m (.dat (d a)))))) := by
  obtain ⟨to, po, ho⟩ := ho
  obtain ⟨te, pe, h⟩ := h
  refine ⟨_, ps_asg pe (hg po) hs hw h1, fun a ha B F0 σ H vs ds D s r => ?_⟩
  refine h a ha B F0 σ H vs ds _ s fun u H1 s1 => ho _ rfl B F0 σ H1 _ _ _ s1 fun v H2 s2 => ?_
  have ev := s2.isPtr
  obtain ⟨F, ok, sl, sv⟩ := s2.pop
  obtain ⟨us, g2, g3⟩ := ok.at_ hL
  have hlen : us.length = sls.length := Paired.length g3
  have hz := ok.sz _ _ g2
  cases sv with
  | cons r1 t =>
    exact ⟨p, us, k, m, ev, rfl, g2, by rw [hlen]; exact hm, r _ _ ⟨F, ok.put hL (d' := .lst (sls.set m (.dat (d a)))) (o := .lst (us.set m u)) (by show (us.set m u).length ≤ sizeLine; rw [List.length_set]; exact hz) ⟨_, upd_same, pr_set r1 m g3⟩, sl, t⟩⟩
/-- xs.pop(k) of ints written, its value dropped -/
noncomputable def popO {α : Type} (xs : List α) (i : Int) : Option (α × List α) := @ite _ (-9223372036854775808 ≤ i ∧ i < 9223372036854775808) (Classical.propDecidable _) ((seqIndex? i xs.length).bind fun k => (xs[k]?).map fun y => (y, xs.eraseIdx k)) none
theorem pop_core {xs : List α} {B F0 : Hp} {σ : L2.St} {H : Hp} {vs : List V} {ds : List Sl} {Q : VK} {k : Int} {y : α} {ys : List α} (hL : L[j]? = some (p, odL d xs)) (hy : popO xs k = some (y, ys)) (s : St X.K B F0 ρ L σ H vs ds)
    (q : ∀ v H', St X.K B F0 ρ (L.set j (p, odL d ys)) σ H' (v :: vs) (.dat (d y) :: ds) → Q v H') : rPopAt (.ref p) [.int k] H Q := by
  unfold popO at hy
  split at hy
  · rename_i hb
    obtain ⟨m, hm, hy⟩ := Option.bind_eq_some_iff.mp hy
    obtain ⟨z, hz, e⟩ := Option.map_eq_some_iff.mp hy
    injection e with e1 e2
    subst e1 e2
    obtain ⟨F, ok, sl, sv⟩ := s
    obtain ⟨us, g2, g3⟩ := ok.at_ hL
    have hlen : us.length = xs.length := by rw [Paired.length g3, List.length_map, List.length_map]
    obtain ⟨u, hu, ru⟩ := pr_get g3 (show ((xs.map d).map Sl.dat)[m]? = some (.dat (d z)) by simp [hz])
    refine ⟨p, us, k, m, u, rfl, rfl, g2, hb.1, hb.2, by rw [hlen]; exact hm, hu, q _ _ ⟨F, ok.put hL (d' := odL d (xs.eraseIdx m)) (o := .lst (us.eraseIdx m)) ?_ ⟨_, upd_same, ?_⟩, sl, .cons ru sv⟩⟩
    · exact Nat.le_trans (len_erase us m) (ok.sz _ _ g2)
    · rw [map_erase', map_erase']
      exact pr_erase m g3
  · cases hy
  where map_erase' {τ υ : Type} {f : τ → υ} : ∀ {l : List τ} {m : Nat}, (l.eraseIdx m).map f = (l.map f).eraseIdx m
    | [], _ => rfl
    | _ :: _, 0 => rfl
    | a :: l, m + 1 => by rw [List.map_cons, List.eraseIdx_cons_succ, List.eraseIdx_cons_succ, List.map_cons, map_erase']
theorem s_pop {xs : List α} {oi : Option Int} (j : Nat) (hL : L[j]? = some (p, odL d xs)) (ho : ES X o ρ L (some (.ptr p))) (hi : EX X dI i ρ L oi) (hs : swapsWith (.Call (.Attribute o "pop" apos) [i] [] cpos) none pos.line X.env = pure false := by rfl)
    (hh : ∀ {to te}, PE X o to → PE X i te → PE X (.Call (.Attribute o "pop" apos) [i] [] cpos) (tBM X.K "list" rPopAt to (tCons te tNil)) := by intro _ _ h1 h2; exact pe_bm PySem.F.plainAttrs_list PySem.F.slot_list_pop PySem.F.type_list_pop mt_popAt h1 (pa_cons h2 pa_nil)) :
    SX X (.Expr (.Call (.Attribute o "pop" apos) [i] [] cpos) pos) ρ L (oi.bind fun k => popO xs k) (ocn fun q => (ρ, L.set j (p, odL d q.2))) := by
  obtain ⟨to, po, ho⟩ := ho
  obtain ⟨ti, pi, hi⟩ := hi
  refine ⟨_, ps_expr (hh po pi) hs, fun z hz B F0 σ H vs ds D s q => ?_⟩
  obtain ⟨k, hk, hz⟩ := Option.bind_eq_some_iff.mp hz
  refine ho _ rfl B F0 σ H vs ds _ s fun v H1 s1 => ?_
  obtain ⟨us1, g1, _, _, _⟩ := s1.own1 (mem_at hL)
  have ev := s1.isPtr
  subst ev
  refine ⟨.inl ⟨rfl, _, SqL.of g1⟩, hi k hk B F0 σ H1 _ _ _ s1 fun u H2 s2 => ?_⟩
  rw [s2.isInt]
  exact pop_core hL hz s2.pop.pop fun v H' s3 => q _ _ s3.pop
/-- x = xs.pop(k) -/
theorem s_setPop {xs : List α} {oi : Option Int} {x : Str} (ix : Nat) (j : Nat) (hN : X.N.Nodup) (hL : L[j]? = some (p, odL d xs)) (ho : ES X o ρ L (some (.ptr p))) (hi : EX X dI i ρ L oi) (hs : swapsWith (.Call (.Attribute o "pop" apos) [i] [] cpos) (some (.Name x px)) pos.line X.env = pure false := by rfl)
    (hh : ∀ {to te}, PE X o to → PE X i te → PE X (.Call (.Attribute o "pop" apos) [i] [] cpos) (tBM X.K "list" rPopAt to (tCons te tNil)) := by intro _ _ h1 h2; exact pe_bm PySem.F.plainAttrs_list PySem.F.slot_list_pop PySem.F.type_list_pop mt_popAt h1 (pa_cons h2 pa_nil))
    (hxi : X.N[ix]? = some x := by rfl) (hx : Loc X.env.scope x := by first | exact Or.inl rfl | exact Or.inr rfl) (hf : X.fn x = true ∨ X.env.scope.names.lookup x = some .local := by first | exact .inl rfl | exact .inr rfl) :
    SX X (.Assign [.Name x px] (.Call (.Attribute o "pop" apos) [i] [] cpos) pos) ρ L (oi.bind fun k => popO xs k) (ocn fun q => (ρ.set ix (some (.dat (d q.1))), L.set j (p, odL d q.2))) := by
  obtain ⟨to, po, ho⟩ := ho
  obtain ⟨ti, pi, hi⟩ := hi
  refine ⟨_, ps_set hN hxi hx (hh po pi) hs hf, fun z hz B F0 σ H vs ds D s q => ?_⟩
  obtain ⟨k, hk, hz⟩ := Option.bind_eq_some_iff.mp hz
  refine ho _ rfl B F0 σ H vs ds _ s fun v H1 s1 => ?_
  obtain ⟨us1, g1, _, _, _⟩ := s1.own1 (mem_at hL)
  have ev := s1.isPtr
  subst ev
  refine ⟨.inl ⟨rfl, _, SqL.of g1⟩, hi k hk B F0 σ H1 _ _ _ s1 fun u H2 s2 => ?_⟩
  rw [s2.isInt]
  exact pop_core hL hz s2.pop.pop fun v H' s3 => q _ _ (s3.store ix)
/-! ### an owned list becomes data -/
theorem St.frzAt {K : PySem.W.Frag} {B F0 H : Hp} {σ : L2.St} {vs : List V} {ds : List Sl} {i : Nat} {xs : List PyData} (j : Nat) (hi : ρ[i]? = some (some (.ptr p))) (hL : L[j]? = some (p, .lst (xs.map .dat))) (h : St K B F0 ρ L σ H vs ds) : St K B F0 (ρ.set i (some (.dat (.list xs)))) (L.eraseIdx j) σ H vs ds := by
  obtain ⟨F, k, a, b⟩ := h
  obtain ⟨e1, _⟩ := ow_split hL (p, .lst (xs.map .dat))
  have e3 : L.eraseIdx j = L.take j ++ L.drop (j + 1) := List.eraseIdx_eq_take_drop_succ L j
  rw [e1] at k
  obtain ⟨F', k', s, r⟩ := k.freeze
  rw [← e3] at k'
  refine ⟨F', k', ?_, svs_mono s b⟩
  obtain ⟨v, h1, h2⟩ := pr_at a hi
  have h2' : v = .ref p := h2
  have a' := sls_mono s a
  have : σ = σ.set i (some v) := by
    obtain ⟨hlt, e⟩ := List.getElem?_eq_some_iff.mp h1
    rw [← e, List.set_getElem_self]
  rw [this]
  exact pr_set (show SlR K F' (some v) (some (.dat (.list xs))) by rw [h2']; exact r) i a'
theorem b_frz {xs : List α} {m : Option δ} (i j : Nat) (hi : ρ[i]? = some (some (.ptr p))) (hL : L[j]? = some (p, odL d xs)) (h : BX X es (ρ.set i (some (.dat (dL d xs)))) (L.eraseIdx j) m oc) : BX X es ρ L m oc := by
  obtain ⟨t, q, h⟩ := h
  exact ⟨t, q, fun b hb B F0 σ H vs ds D s g => h b hb B F0 σ H vs ds D (s.frzAt j hi hL) g⟩
/-- forget slots, let go what is youngest -/
theorem b_mask {m : Option δ} (bs : List Bool) {M1 M2 : Ow} (h : BX X es (mask bs ρ) M1 m oc) (hL : L = M1 ++ M2 := by rfl) : BX X es ρ L m oc := by
  obtain ⟨t, q, h⟩ := h
  subst hL
  exact ⟨t, q, fun b hb B F0 σ H vs ds D s g => h b hb B F0 σ H vs ds D (s.mask bs).part g⟩

/-! ### expressions that turn the world -/
theorem EM.all {Lf : W → Ow} {ρf : S → Env} {wf : S → W} {k : S → Option (α × W)} (h : ∀ s, EM X d e (ρf s) Lf (wf s) (k s)) :
    ∃ t, PE X e t ∧ ∀ s a w', k s = some (a, w') → ∀ B F0 σ H vs ds Q, St X.K B F0 (ρf s) (Lf (wf s)) σ H vs ds → (∀ v H', St X.K B F0 (ρf s) (Lf w') σ H' (v :: vs) (.dat (d a) :: ds) → Q v H') → t σ H Q := by
  refine ⟨fun σ H Q => ∃ s a w' B F0 vs ds, k s = some (a, w') ∧ St X.K B F0 (ρf s) (Lf (wf s)) σ H vs ds ∧ ∀ v H', St X.K B F0 (ρf s) (Lf w') σ H' (v :: vs) (.dat (d a) :: ds) → Q v H', ⟨fun pins s σ H Q I h2 => ?_⟩, fun s a w' e B F0 σ H vs ds Q q g => ⟨s, a, w', B, F0, vs, ds, e, q, g⟩⟩
  obtain ⟨s', a, w', B, F0, vs, ds, e, q, g⟩ := h2
  obtain ⟨t, p, h⟩ := h s'
  exact p.run pins s σ H Q I (h a w' e B F0 σ H vs ds Q q g)
theorem m_cmp {op : CmpOp} {r : R2} {g : α → β → Option γ} {Lf : W → Ow} {w : W} {ma : Option (α × W)} {mb : α → W → Option (β × W)} (ho : OpR X (compareOp op) r) (hg : Op2 X.K r d d' f g) (ha : EM X d a ρ Lf w ma) (hb : ∀ x w1, EM X d' b ρ Lf w1 (mb x w1)) (hm : behindInMarks op b = false := by exact nomark _) :
    EM X f (.Compare a [op] [b] pos) ρ Lf w (ma.bind fun x => (mb x.1 x.2).bind fun y => (g x.1 y.1).map fun z => (z, y.2)) := by
  obtain ⟨ta, pa, ha⟩ := ha
  obtain ⟨tb, pb, hb⟩ := EM.all (S := α × W) (ρf := fun _ => ρ) (wf := fun q => q.2) (k := fun q => mb q.1 q.2) fun q => hb q.1 q.2
  refine ⟨_, pe_cmpR ho pa pb hm, fun z w3 hz B F0 σ H vs ds Q s k => ?_⟩
  obtain ⟨⟨x, w1⟩, hx, hz⟩ := Option.bind_eq_some_iff.mp hz
  obtain ⟨⟨y, w2⟩, hy, hz⟩ := Option.bind_eq_some_iff.mp hz
  obtain ⟨z', hz', e⟩ := Option.map_eq_some_iff.mp hz
  injection e with e1 e2
  subst e1 e2
  exact ha x w1 hx B F0 σ H vs ds _ s fun v H1 s1 => hb (x, w1) y w2 hy B F0 σ H1 _ _ _ s1 fun u H2 s2 => hg x y _ hz' B F0 ρ _ σ H2 vs ds v u Q s2 k
theorem tm_cmp {op : CmpOp} {r : R2} {g : α → β → Option Bool} {Lf : W → Ow} {w : W} {ma : Option (α × W)} {mb : α → W → Option (β × W)} (ho : OpR X (compareOp op) r) (hg : Op2 X.K r d d' dB g) (ha : EM X d a ρ Lf w ma) (hb : ∀ x w1, EM X d' b ρ Lf w1 (mb x w1)) (hm : behindInMarks op b = false := by exact nomark _) :
    TM X (.Compare a [op] [b] pos) ρ Lf w (ma.bind fun x => (mb x.1 x.2).bind fun y => (g x.1 y.1).map fun z => (z, y.2)) := by
  obtain ⟨ta, pa, ha⟩ := ha
  obtain ⟨tb, pb, hb⟩ := EM.all (S := α × W) (ρf := fun _ => ρ) (wf := fun q => q.2) (k := fun q => mb q.1 q.2) fun q => hb q.1 q.2
  refine ⟨_, pt_cmpR ho pa pb hm, fun z w3 hz B F0 σ H vs ds Q s k => ?_⟩
  obtain ⟨⟨x, w1⟩, hx, hz⟩ := Option.bind_eq_some_iff.mp hz
  obtain ⟨⟨y, w2⟩, hy, hz⟩ := Option.bind_eq_some_iff.mp hz
  obtain ⟨z', hz', e⟩ := Option.map_eq_some_iff.mp hz
  injection e with e1 e2
  subst e1 e2
  exact ha x w1 hx B F0 σ H vs ds _ s fun v H1 s1 => hb (x, w1) y w2 hy B F0 σ H1 _ _ _ s1 fun u H2 s2 => hg x y _ hz' B F0 ρ _ σ H2 vs ds v u _ s2 fun w H3 s3 => ⟨_, s3.isBl, k H3 s3.pop⟩
/-- a sequence, then an index that may turn the world -/
theorem m_ix {Lf : W → Ow} {w : W} {ox : Option (List α)} {mi : List α → Option (Int × W)} (h : EX X (dT d) e ρ (Lf w) ox) (hi : ∀ x, EM X dI i ρ Lf w (mi x)) (hs : PlainIx i := by intro _ _; rfl) : EM X d (.Subscript e i pos) ρ Lf w (ox.bind fun xs => (mi xs).bind fun n => (atO xs n.1).map fun z => (z, n.2)) := by
  obtain ⟨t, p, h⟩ := h
  obtain ⟨t', p', h'⟩ := EM.all (S := List α) (ρf := fun _ => ρ) (wf := fun _ => w) (k := mi) hi
  refine ⟨_, pe_ix ix_tup p p' hs, fun z w3 hz B F0 σ H vs ds Q s k => ?_⟩
  obtain ⟨xs, hx, hz⟩ := Option.bind_eq_some_iff.mp hz
  obtain ⟨⟨n, w2⟩, hn, hz⟩ := Option.bind_eq_some_iff.mp hz
  obtain ⟨z', hz', e⟩ := Option.map_eq_some_iff.mp hz
  injection e with e1 e2
  subst e1 e2
  refine h xs hx B F0 σ H vs ds _ s fun v H1 s1 => h' xs n w2 hn B F0 σ H1 _ _ _ s1 fun u H2 s2 => ?_
  have eu := s2.isInt
  obtain ⟨a, us, rfl, h1, h2, _, h3⟩ := s2.pop.tup1
  have hz2 : atI (xs.map d) n = some (d z') := by rw [atI_map, show atI xs n = some z' from hz']; rfl
  obtain ⟨F, ok, sl', sv⟩ := h3
  obtain ⟨sv1, sv2⟩ := pr_split (by rw [List.length_map]; exact h2) sv
  obtain ⟨w, hw, r⟩ := pr_atI sv1 (show atI ((xs.map d).map Sl.dat) n = some (.dat (d z')) by rw [atI_map, hz2]; rfl)
  exact ⟨a, us, n, w, rfl, eu, SqT.of h1, hw, k w H2 ⟨F, ok, sl', .cons r (by cases sv2 with | cons _ t => exact t)⟩⟩
theorem m_ixL {Lf : W → Ow} {w : W} {ox : Option (List α)} {mi : List α → Option (Int × W)} (h : EX X (dL d) e ρ (Lf w) ox) (hi : ∀ x, EM X dI i ρ Lf w (mi x)) (hs : PlainIx i := by intro _ _; rfl) : EM X d (.Subscript e i pos) ρ Lf w (ox.bind fun xs => (mi xs).bind fun n => (atO xs n.1).map fun z => (z, n.2)) := by
  obtain ⟨t, p, h⟩ := h
  obtain ⟨t', p', h'⟩ := EM.all (S := List α) (ρf := fun _ => ρ) (wf := fun _ => w) (k := mi) hi
  refine ⟨_, pe_ix ix_list p p' hs, fun z w3 hz B F0 σ H vs ds Q s k => ?_⟩
  obtain ⟨xs, hx, hz⟩ := Option.bind_eq_some_iff.mp hz
  obtain ⟨⟨n, w2⟩, hn, hz⟩ := Option.bind_eq_some_iff.mp hz
  obtain ⟨z', hz', e⟩ := Option.map_eq_some_iff.mp hz
  injection e with e1 e2
  subst e1 e2
  refine h xs hx B F0 σ H vs ds _ s fun v H1 s1 => h' xs n w2 hn B F0 σ H1 _ _ _ s1 fun u H2 s2 => ?_
  have eu := s2.isInt
  obtain ⟨a, us, rfl, h1, h2, _, h3⟩ := s2.pop.lst1
  have hz2 : atI (xs.map d) n = some (d z') := by rw [atI_map, show atI xs n = some z' from hz']; rfl
  obtain ⟨F, ok, sl', sv⟩ := h3
  obtain ⟨sv1, sv2⟩ := pr_split (by rw [List.length_map]; exact h2) sv
  obtain ⟨w, hw, r⟩ := pr_atI sv1 (show atI ((xs.map d).map Sl.dat) n = some (.dat (d z')) by rw [atI_map, hz2]; rfl)
  exact ⟨a, us, n, w, rfl, eu, SqL.of h1, hw, k w H2 ⟨F, ok, sl', .cons r (by cases sv2 with | cons _ t => exact t)⟩⟩
/-- tuple(..) of a new list in a world that turns -/
theorem m_tuple {Lf : W → Ow} {w : W} {m : Option (List α × W)} {p : Pos} (h : EM X (dL d) e ρ Lf w m) (hm : X.mg "tuple" = none)
    (hh : X.mg "tuple" = none → ∀ {ta}, PE X e ta → PE X (.Call (.Name "tuple" p) [e] [] pos) (tCB (fun xs H Q => ∃ p ys, xs = [.ref p] ∧ ((SqL X.K H p ys ∧ ∀ l, H l = none → Q (.ref l) (upd H l (.tup ys))) ∨ (SqT X.K H p ys ∧ Q (.ref p) H))) (tCons ta tNil)) := by intro hm _ h; exact pe_callTy call_tuple_of (by rfl) hm PyProof.Rows.boot_tuple (pa_cons h pa_nil)) :
    EM X (dT d) (.Call (.Name "tuple" p) [e] [] pos) ρ Lf w m := by
  obtain ⟨t, p, h⟩ := h
  refine ⟨_, hh hm p, fun xs w' hx B F0 σ H vs ds Q s k => h xs w' hx B F0 σ H vs ds _ s fun v H1 s1 => ?_⟩
  obtain ⟨a, us, rfl, h1, h2, h4, h3⟩ := s1.lst1
  have s3 := h3.stack (ws := us ++ vs) (es := (xs.map d).map .dat ++ ds) fun F r => by
    obtain ⟨r1, r2⟩ := pr_split (by rw [List.length_map]; exact h2) r
    exact pr_app r1 (by cases r2 with | cons _ t => exact t)
  exact ⟨a, us, rfl, .inl ⟨SqL.of h1, fun l hl' => k _ _ (s3.newTup h2 hl' h4)⟩⟩
theorem m_pair {Lf : W → Ow} {w : W} {k} {ma : Option (α × W)} {mb : α → W → Option (β × W)} (ha : EM X d a ρ Lf w ma) (hb : ∀ x w1, EM X d' b ρ Lf w1 (mb x w1)) (h1 : starEach [a, b] X.env = (false, eval a X.env) :: starEach [b] X.env := by rfl) (h2 : starEach [b] X.env = (false, eval b X.env) :: starEach [] X.env := by rfl) :
    EM X (dP d d') (.Tuple [a, b] k pos) ρ Lf w (ma.bind fun x => (mb x.1 x.2).bind fun y => some ((x.1, y.1), y.2)) := by
  obtain ⟨ta, pa, ha⟩ := ha
  obtain ⟨tb, pb, hb⟩ := EM.all (S := α × W) (ρf := fun _ => ρ) (wf := fun q => q.2) (k := fun q => mb q.1 q.2) fun q => hb q.1 q.2
  refine ⟨_, pe_tup (pa_cons pa (pa_cons pb pa_nil h2) h1), fun z w3 hz B F0 σ H vs ds Q s k => ?_⟩
  obtain ⟨⟨x, w1⟩, hx, hz⟩ := Option.bind_eq_some_iff.mp hz
  obtain ⟨⟨y, w2⟩, hy, hz⟩ := Option.bind_eq_some_iff.mp hz
  cases hz
  refine ha x w1 hx B F0 σ H vs ds _ s fun v H1 s1 => hb (x, w1) y w2 hy B F0 σ H1 _ _ _ s1 fun u H2 s2 => ⟨sz_of (by decide : 2 ≤ 1000), fun p hp => k _ _ ?_⟩
  exact St.newTup (xs := [d x, d' y]) (us := [v, u]) s2.swap rfl hp (sz_of (by decide : 2 ≤ 1000))
/-- arguments that turn the world -/
theorem am_nil {Lf : W → Ow} {w : W} : AM X (fun _ : Unit => []) [] ρ Lf w (some ((), w)) := (a_nil (L := Lf w)).m
theorem am_cons {Lf : W → Ow} {w : W} {ess : List Expr} {enc : β → List Sl} {ma : Option (α × W)} {mb : α → W → Option (β × W)} (ha : EM X d e ρ Lf w ma) (hr : ∀ x w1, AM X enc ess ρ Lf w1 (mb x w1)) (hs : starEach (e :: ess) X.env = (false, eval e X.env) :: starEach ess X.env := by rfl) :
    AM X (fun p : α × β => Sl.dat (d p.1) :: enc p.2) (e :: ess) ρ Lf w (ma.bind fun x => (mb x.1 x.2).bind fun y => some ((x.1, y.1), y.2)) := by
  obtain ⟨t, p, h⟩ := ha
  obtain ⟨t', p', h'⟩ : ∃ tb, PA X ess tb ∧ ∀ x w1, ∀ a w', mb x w1 = some (a, w') → ∀ B F0 σ H vs ds Q, St X.K B F0 ρ (Lf w1) σ H vs ds → (∀ us H', us.length = (enc a).length → St X.K B F0 ρ (Lf w') σ H' (us ++ vs) (enc a ++ ds) → Q us H') → tb σ H Q := by
    refine ⟨fun σ H Q => ∃ x w1 a w' B F0 vs ds, mb x w1 = some (a, w') ∧ St X.K B F0 ρ (Lf w1) σ H vs ds ∧ ∀ us H', us.length = (enc a).length → St X.K B F0 ρ (Lf w') σ H' (us ++ vs) (enc a ++ ds) → Q us H', ⟨fun pos pins s σ H Q I h => ?_⟩, fun x w1 a w' e B F0 σ H vs ds Q s k => ⟨x, w1, a, w', B, F0, vs, ds, e, s, k⟩⟩
    obtain ⟨x, w1, a, w', B, F0, vs, ds, e, st, k⟩ := h
    obtain ⟨tb, pb, hb⟩ := hr x w1
    exact pb.run pos pins s σ H Q I (hb a w' e B F0 σ H vs ds Q st k)
  refine ⟨_, pa_cons p p' hs, fun z w3 hz B F0 σ H vs ds Q s k => ?_⟩
  obtain ⟨⟨x, w1⟩, hx, hz⟩ := Option.bind_eq_some_iff.mp hz
  obtain ⟨⟨y, w2⟩, hy, hz⟩ := Option.bind_eq_some_iff.mp hz
  cases hz
  refine h x w1 hx B F0 σ H vs ds _ s fun v H1 s1 => h' x w1 y w2 hy B F0 σ H1 _ _ _ s1 fun us H2 e2 s2 => ?_
  exact k (v :: us) H2 (by simp [e2]) (s2.args e2)
theorem am_sl {Lf : W → Ow} {w : W} {ess : List Expr} {enc : β → List Sl} {sl : Sl} {mb : Option (β × W)} (ha : ES X e ρ (Lf w) (some sl)) (hr : AM X enc ess ρ Lf w mb) (hs : starEach (e :: ess) X.env = (false, eval e X.env) :: starEach ess X.env := by rfl) :
    AM X (fun p : β => sl :: enc p) (e :: ess) ρ Lf w mb := by
  obtain ⟨t, p, h⟩ := ha
  obtain ⟨t', p', h'⟩ := hr
  refine ⟨_, pa_cons p p' hs, fun z w3 hz B F0 σ H vs ds Q s k => ?_⟩
  refine h sl rfl B F0 σ H vs ds _ s fun v H1 s1 => h' z w3 hz B F0 σ H1 _ _ _ s1 fun us H2 e2 s2 => ?_
  exact k (v :: us) H2 (by simp [e2]) (s2.args e2)
/-- a test by its value, in a world that turns -/
theorem tm_val {Lf : W → Ow} {w : W} {o : Option (Bool × W)} (h : EM X dB e ρ Lf w o) (he : ∀ whole, isTrue e X.env whole = (do let v ← whole; standAt e.pos; holding [v] (truthy v)) := by intro _; rfl) : TM X e ρ Lf w o := by
  obtain ⟨t, p, h⟩ := h
  exact ⟨_, pt_val p he, fun b w' hb B F0 σ H vs ds Q s k => h b w' hb B F0 σ H vs ds _ s fun v H' s' => ⟨b, s'.isBl, k H' s'.pop⟩⟩
/-- if on such a test -/
theorem s_ifM {Lf : W → Ow} {w : W} {A A' : List Stmt} {o : Option (Bool × W)} {m m' : W → Option δ} (hc : TM X c ρ Lf w o) (h : ∀ w, BX X A ρ (Lf w) (m w) oc) (h' : ∀ w, BX X A' ρ (Lf w) (m' w) oc) : SX X (.If c A A' pos) ρ (Lf w) (o.bind fun k => if k.1 then m k.2 else m' k.2) oc := by
  obtain ⟨t, p, hc⟩ := hc
  obtain ⟨t1, p1, h⟩ := BX.all h
  obtain ⟨t2, p2, h'⟩ := BX.all h'
  refine ⟨_, ps_if p p1 p2, fun b hb B F0 σ H vs ds D s g => ?_⟩
  obtain ⟨⟨k, w1⟩, hk, hb⟩ := Option.bind_eq_some_iff.mp hb
  refine hc k w1 hk B F0 σ H vs ds _ s fun H1 s1 => ?_
  cases k with
  | true => exact iteT (h w1 b (by simpa using hb) B F0 σ H1 vs ds D s1 g)
  | false => exact iteF (h' w1 b (by simpa using hb) B F0 σ H1 vs ds D s1 g)
/-- a for over what an expression gives that turns the world -/
def IM (X : Cx) (tg iter : Expr) (ρ : Env) (Lf : W → Ow) (w : W) (PL : Ow → Prop) (lim : Bool) (e : α → Sl) (o : Option (List α × W)) : Prop :=
  ∃ wi, PI X tg iter wi ∧ ∀ xs w', o = some (xs, w') → ∀ B F0 σ H vs ds R, St X.K B F0 ρ (Lf w) σ H vs ds →
    (∀ J H1 pv pd, pv.length = pd.length → (lim = true → xs.length ≤ sizeLine) → St X.K B F0 ρ (Lf w') σ H1 (pv ++ vs) (pd ++ ds) → Walk X.K J pv pd PL e xs → R J H1) → wi σ H R
theorem IX.m {tg iter : Expr} {Lf : W → Ow} {w : W} {PL : Ow → Prop} {lim : Bool} {en : α → Sl} {o : Option (List α)} (h : IX X tg iter ρ (Lf w) PL lim en o) : IM X tg iter ρ Lf w PL lim en (o.map fun a => (a, w)) := by
  obtain ⟨t, p, h⟩ := h
  refine ⟨t, p, fun xs w' hm B F0 σ H vs ds R s k => ?_⟩
  obtain ⟨x, hx, e⟩ := Option.map_eq_some_iff.mp hm
  injection e with e1 e2
  subst e1 e2
  exact h _ hx B F0 σ H vs ds R s k
theorem im_range {tg : Expr} {Lf : W → Ow} {w : W} {m : Option (Int × W)} {p : Pos} (h : EM X dI e ρ Lf w m) (hm : X.mg "range" = none) (hg : Gl X "range" := by rfl) (hs : starEach [e] X.env = [(false, eval e X.env)] := by rfl) (hs2 : starEach [e] X.env = (false, eval e X.env) :: starEach [] X.env := by rfl) : IM X tg (.Call (.Name "range" p) [e] [] pos) ρ Lf w anyL false (fun x => .dat (dI x)) (m.bind fun n => (rngO 0 n.1).map fun xs => (xs, n.2)) := by
  obtain ⟨t, q, h⟩ := h
  refine ⟨_, pi_range1 hg hm (pa_cons q pa_nil hs2) hs, fun xs w' hx B F0 σ H vs ds R s k => ?_⟩
  obtain ⟨⟨n, w2⟩, hn, hx⟩ := Option.bind_eq_some_iff.mp hx
  obtain ⟨z, hx', e⟩ := Option.map_eq_some_iff.mp hx
  injection e with e1 e2
  subst e1 e2
  obtain ⟨_, h2, h3⟩ := rngO_some hx'
  refine h n w2 hn B F0 σ H vs ds _ s fun v H1 s1 => ?_
  refine ⟨n, by rw [s1.isInt], (bigI_iff h2).1, (bigI_iff h2).2, k _ H1 [] [] rfl (fun z => by cases z) s1.pop (walk_rng ?_)⟩
  rw [h3]
  unfold rng
  rw [Int.sub_zero]
theorem s_foldM {T : Type} {vw : Vw T} {tg iter : Expr} {body : List Stmt} {PL : Ow → Prop} {lim : Bool} {en : α → Sl} {Lf : W → Ow} {w : W} {o : Option (List α × W)} {g : T → α → Option T} {ρb : T → α → Env} {s0 : W → T} {bs : List Bool} {M1 : W → Ow} {M2 : Ow} (hp : PassesOwn (model X.prog X.w) X.A X.env X.xe) (hc : X.calm = true)
    (hi : IM X tg iter ρ Lf w PL lim en o) (hg : ∀ s x, GX X tg (vw s).1 (vw s).2 (en x) (ρb s x)) (hb : ∀ s x, BX X body (ρb s x) (vw s).2 (g s x) (ocn vw)) (hPL : ∀ s, PL (vw s).2) (h0 : ∀ w, vw (s0 w) = (mask bs ρ, M1 w)) (hL : ∀ w, Lf w = M1 w ++ M2 := by intro _; rfl)
    (hs : ∀ x, foldedSetIterable iter X.env x = pure x := by intro _; rfl) :
    SX X (.For tg iter body [] pos) ρ (Lf w) (o.bind fun q => foldO g q.1 (s0 q.2)) (ocn vw) := by
  obtain ⟨wi, pi, hi⟩ := hi
  obtain ⟨gg, pg, hg⟩ := GX.all (S := T × α) (ρf := fun q => (vw q.1).1) (Lf := fun q => (vw q.1).2) (sf := fun q => en q.2) (ρf' := fun q => ρb q.1 q.2) fun q => hg q.1 q.2
  obtain ⟨tb, pb, hb⟩ := BX.all (S := T × α) (ρf := fun q => ρb q.1 q.2) (Lf := fun q => (vw q.1).2) (k := fun q => g q.1 q.2) fun q => hb q.1 q.2
  refine ⟨_, ps_for hp hc pi pg pb hs, fun b hm B F0 σ H vs ds D s gd => ?_⟩
  obtain ⟨⟨xs, w2⟩, hx, hm⟩ := Option.bind_eq_some_iff.mp hm
  refine hi xs w2 hx B F0 σ H vs ds _ s fun J H1 pv pd hl _ s1 w => ?_
  refine ⟨fun i m σ H => m = xs.length - i ∧ i ≤ xs.length ∧ ∃ t, foldO g (xs.drop i) t = some b ∧ St X.K B F0 (vw t).1 (vw t).2 σ H (pv ++ vs) (pd ++ ds), ⟨_, rfl, Nat.zero_le _, s0 w2, hm, ?_⟩, ?_⟩
  · rw [h0]
    rw [hL] at s1
    exact (s1.mask bs).part
  rintro i m σ2 H2 ⟨rfl, hi2, t, ht, s2⟩
  obtain ⟨w1, w2⟩ := w B F0 _ _ σ2 H2 vs ds i (hPL t) s2
  by_cases hlt : i < xs.length
  · obtain ⟨go, yl⟩ := w2 xs[i] (List.getElem?_eq_getElem hlt)
    rw [List.drop_eq_getElem_cons hlt] at ht
    obtain ⟨r, hr, ht⟩ := Option.bind_eq_some_iff.mp ht
    refine .inr ⟨go, fun σ' H' => ∃ t', foldO g (xs.drop (i + 1)) t' = some b ∧ St X.K B F0 (vw t').1 (vw t').2 σ' H' (pv ++ vs) (pd ++ ds), fun σ' H' q => ⟨xs.length - (i + 1), by omega, rfl, hlt, q⟩, fun y H' hy => ?_⟩
    refine hg (t, xs[i]) B F0 σ2 H' y _ _ _ (yl y H' hy) fun σ3 H3 s3 => ?_
    exact hb (t, xs[i]) r hr B F0 σ3 H3 _ _ _ s3 fun σ' H' q => ⟨r, ht, q⟩
  · have e : i = xs.length := by omega
    have e2 : xs.drop i = [] := by rw [e]; exact List.drop_length
    rw [e2] at ht
    have e3 : t = b := by simpa [foldO] using ht
    subst e3
    exact .inl ⟨w1 e, gd σ2 H2 (s2.stack fun F r => (pr_split hl r).2)⟩
end
end Mir
namespace Mir
open PySem L2

/-! ### a def's parameters, one by one -/
def enc0 (_ : Unit) : List Sl := []
def encC {α β : Type} (d : α → PyData) (enc : β → List Sl) (p : α × β) : List Sl := .dat (d p.1) :: enc p.2
def encS {β : Type} (sl : Sl) (enc : β → List Sl) (p : β) : List Sl := sl :: enc p
section
variable {X : Cx} {α β γ δ S W : Type} {e a b c i : Expr} {es : List Expr} {ρ ρ' : Env} {L : Ow} {p pos p2 px apos cpos : Pos} {d : α → PyData} {d' : β → PyData} {f : γ → PyData} {oa : Option α} {ob : Option β} {x y : Str} {sts rest A A' : List Stmt} {oc : δ → Oc}
theorem a_0 : AX X enc0 [] ρ L (some ()) := a_nil
theorem a_C {enc : β → List Sl} (ha : EX X d e ρ L oa) (hr : AX X enc es ρ L ob) (hs : starEach (e :: es) X.env = (false, eval e X.env) :: starEach es X.env := by rfl) : AX X (encC d enc) (e :: es) ρ L (oa.bind fun x => ob.bind fun y => some (x, y)) := a_cons ha hr hs
theorem a_S {enc : β → List Sl} {sl : Sl} (ha : ES X e ρ L (some sl)) (hr : AX X enc es ρ L ob) (hs : starEach (e :: es) X.env = (false, eval e X.env) :: starEach es X.env := by rfl) : AX X (encS sl enc) (e :: es) ρ L ob := a_sl ha hr hs
theorem am_0 {Lf : W → Ow} {w : W} : AM X enc0 [] ρ Lf w (some ((), w)) := am_nil
theorem am_C {Lf : W → Ow} {w : W} {enc : β → List Sl} {ma : Option (α × W)} {mb : α → W → Option (β × W)} (ha : EM X d e ρ Lf w ma) (hr : ∀ x w1, AM X enc es ρ Lf w1 (mb x w1)) (hs : starEach (e :: es) X.env = (false, eval e X.env) :: starEach es X.env := by rfl) :
    AM X (encC d enc) (e :: es) ρ Lf w (ma.bind fun x => (mb x.1 x.2).bind fun y => some ((x.1, y.1), y.2)) := am_cons ha hr hs
theorem am_S {Lf : W → Ow} {w : W} {enc : β → List Sl} {sl : Sl} {mb : Option (β × W)} (ha : ES X e ρ (Lf w) (some sl)) (hr : AM X enc es ρ Lf w mb) (hs : starEach (e :: es) X.env = (false, eval e X.env) :: starEach es X.env := by rfl) :
    AM X (encS sl enc) (e :: es) ρ Lf w mb := am_sl ha hr hs

/-! ### by values that are there -/
theorem x_andP {u v : Bool} (h : EX X dB a ρ L (some u)) (h' : EX X dB (.BoolOp .And (b :: es) pos) ρ L (some v)) : EX X dB (.BoolOp .And (a :: b :: es) pos) ρ L (some (u && v)) := (x_and h h').conv (by cases u <;> rfl)
theorem x_orP {u v : Bool} (h : EX X dB a ρ L (some u)) (h' : EX X dB (.BoolOp .Or (b :: es) pos) ρ L (some v)) : EX X dB (.BoolOp .Or (a :: b :: es) pos) ρ L (some (u || v)) := (x_or h h').conv (by cases u <;> rfl)
theorem WX.conv {o o' : Option Bool} (h : WX X e ρ L o) (q : o = o') : WX X e ρ L o' := q ▸ h
theorem w_andP {u v : Bool} (h : TX X a ρ L (some u)) (h' : WX X (.BoolOp .And (b :: es) pos) ρ L (some v)) : WX X (.BoolOp .And (a :: b :: es) pos) ρ L (some (u && v)) := (w_and h h').conv (by cases u <;> rfl)
theorem w_orP {u v : Bool} (h : TX X a ρ L (some u)) (h' : WX X (.BoolOp .Or (b :: es) pos) ρ L (some v)) : WX X (.BoolOp .Or (a :: b :: es) pos) ρ L (some (u || v)) := (w_or h h').conv (by cases u <;> rfl)
theorem x_ifP {k : Bool} {u v : α} (hc : TX X c ρ L (some k)) (ha : EX X d a ρ L (some u)) (hb : EX X d b ρ L (some v)) : EX X d (.IfExp c a b pos) ρ L (some (if k then u else v)) := (x_if hc ha hb).conv (by cases k <;> rfl)
theorem s_ifP {k : Bool} {u v : δ} (hc : TX X c ρ L (some k)) (h : BX X A ρ L (some u) oc) (h' : BX X A' ρ L (some v) oc) : SX X (.If c A A' pos) ρ L (some (if k then u else v)) oc := (s_if hc h h').conv (by cases k <;> rfl)
/-- if c: .. that returns; the rest: in a def's own block -/
theorem b_ifF {R : Type} {rd : Rd R} {o : Option Bool} {m k : Option R} (hc : TX X c ρ L o) (h : BX X A ρ L m (ocr rd)) (hr : BX X rest ρ L k (ocr rd)) : BX X (.If c A [] pos :: rest) ρ L (o.bind fun q => if q then m else k) (ocr rd) := by
  refine (b_ifret (rd := rd) id hc h hr).conv ?_
  cases o with
  | none => rfl
  | some q => cases q <;> cases m <;> rfl
theorem EX.dd {o : Option α} (h : EX X d e ρ L o) : EX X dD e ρ L (o.map d) := h.re fun _ => rfl

/-! ### in a world that turns -/
theorem s_asgM {Lf : W → Ow} {w : W} {o : Option (α × W)} {tg : Expr} {ρf : α → Env} (h : EM X d e ρ Lf w o) (hg : ∀ a w, GX X tg ρ (Lf w) (.dat (d a)) (ρf a)) (hs : swapsWithSole [tg] e pos.line X.env = pure false := by rfl) (hw : swappedStores [tg] e X.env = pure none := by rfl)
    (h1 : (assignEach [tg] X.env).map (·.2) = [assign tg X.env] := by rfl) : SX X (.Assign [tg] e pos) ρ (Lf w) o (ocn fun a => (ρf a.1, Lf a.2)) := by
  obtain ⟨t, p, h⟩ := h
  obtain ⟨g, p', hg⟩ := GX.all (S := α × W) (ρf := fun _ => ρ) (Lf := fun q => Lf q.2) (sf := fun q => .dat (d q.1)) (ρf' := fun q => ρf q.1) fun q => hg q.1 q.2
  exact ⟨_, ps_asg p p' hs hw h1, fun a ha B F0 σ H vs ds D s q => h a.1 a.2 ha B F0 σ H vs ds _ s fun v H1 s1 => hg a B F0 σ H1 v vs ds _ s1 q⟩
theorem s_exprM {Lf : W → Ow} {w : W} {o : Option (α × W)} (h : EM X d e ρ Lf w o) (hs : swapsWith e none pos.line X.env = pure false := by rfl) : SX X (.Expr e pos) ρ (Lf w) o (ocn fun a => (ρ, Lf a.2)) := by
  obtain ⟨t, p, h⟩ := h
  exact ⟨_, ps_expr p hs, fun a ha B F0 σ H vs ds D s q => h a.1 a.2 ha B F0 σ H vs ds _ s fun v H1 s1 => q _ _ s1.pop⟩
theorem EM.re {Lf : W → Ow} {w : W} {d' : β → PyData} {o : Option (α × W)} {g : α → β} (h : EM X d e ρ Lf w o) (q : ∀ a, d' (g a) = d a) : EM X d' e ρ Lf w (o.map fun r => (g r.1, r.2)) := by
  obtain ⟨t, p, h⟩ := h
  refine ⟨t, p, fun b w' hb B F0 σ H vs ds Q s k => ?_⟩
  obtain ⟨⟨a, w1⟩, ha, e⟩ := Option.map_eq_some_iff.mp hb
  injection e with e1 e2
  subst e1 e2
  exact h a _ ha B F0 σ H vs ds Q s fun v H' s' => k v H' (by rw [q]; exact s')
theorem EM.dd {Lf : W → Ow} {w : W} {o : Option (α × W)} (h : EM X d e ρ Lf w o) : EM X dD e ρ Lf w (o.map fun r => (d r.1, r.2)) := h.re fun _ => rfl
theorem TM.all {Lf : W → Ow} {ρf : S → Env} {wf : S → W} {k : S → Option (Bool × W)} (h : ∀ s, TM X e (ρf s) Lf (wf s) (k s)) :
    ∃ t, PT X e t ∧ ∀ s b w', k s = some (b, w') → ∀ B F0 σ H vs ds Q, St X.K B F0 (ρf s) (Lf (wf s)) σ H vs ds → (∀ H', St X.K B F0 (ρf s) (Lf w') σ H' vs ds → Q b H') → t σ H Q := by
  refine ⟨fun σ H Q => ∃ s b w' B F0 vs ds, k s = some (b, w') ∧ St X.K B F0 (ρf s) (Lf (wf s)) σ H vs ds ∧ ∀ H', St X.K B F0 (ρf s) (Lf w') σ H' vs ds → Q b H', ⟨fun pins s σ H Q I h2 => ?_⟩, fun s b w' e B F0 σ H vs ds Q q g => ⟨s, b, w', B, F0, vs, ds, e, q, g⟩⟩
  obtain ⟨s', b, w', B, F0, vs, ds, e, q, g⟩ := h2
  obtain ⟨t, p, h⟩ := h s'
  exact p.run pins s σ H Q I (h b w' e B F0 σ H vs ds Q q g)
/-- if c: .. that returns; the rest -/
theorem b_ifretM {R : Type} {rd : Rd R} {Lf : W → Ow} {w : W} {o : Option (Bool × W)} {m : W → Option R} {k : W → Option δ} (ret : R → δ) (hc : TM X c ρ Lf w o) (h : ∀ w, BX X A ρ (Lf w) (m w) (ocr rd)) (hr : ∀ w, BX X rest ρ (Lf w) (k w) oc) (hret : ∀ r, oc (ret r) = .rt (rd r).1 (rd r).2 := by intro _; rfl) : BX X (.If c A [] pos :: rest) ρ (Lf w) (o.bind fun q => if q.1 then (m q.2).map ret else k q.2) oc := by
  obtain ⟨t, p, hc⟩ := hc
  obtain ⟨t1, p1, h⟩ := BX.all h
  obtain ⟨t2, p2, hr⟩ := BX.all hr
  refine ⟨_, pss_cons (ps_if p p1 pss_nil) p2, fun b hb B F0 σ H vs ds D s g => ?_⟩
  obtain ⟨⟨q, w1⟩, hq, hb⟩ := Option.bind_eq_some_iff.mp hb
  refine hc q w1 hq B F0 σ H vs ds _ s fun H1 s1 => ?_
  cases q with
  | true =>
    obtain ⟨r, hm, rfl⟩ := Option.map_eq_some_iff.mp (show (m w1).map ret = some b by simpa using hb)
    rw [hret] at g
    exact iteT (h w1 r hm B F0 σ H1 vs ds _ s1 g)
  | false => exact iteF (hr w1 b (by simpa using hb) B F0 σ H1 vs ds D s1 g)
/-- a list written of what turns the world -/
def MH (X : Cx) {α W : Type} (d : α → PyData) (es : List Expr) (ρ : Env) (Lf : W → Ow) (w : W) (o : Option (List α × W)) : Prop := AM X (encH d) es ρ Lf w o ∧ ∀ xs w', o = some (xs, w') → xs.length = es.length
theorem mh_nil {Lf : W → Ow} {w : W} : MH X d [] ρ Lf w (some ([], w)) := ⟨ah_nil.m (Lf := Lf), fun xs w' h => by cases h; rfl⟩
theorem mh_cons {Lf : W → Ow} {w : W} {ma : Option (α × W)} {mb : α → W → Option (List α × W)} (ha : EM X d e ρ Lf w ma) (hr : ∀ x w1, MH X d es ρ Lf w1 (mb x w1)) (hs : starEach (e :: es) X.env = (false, eval e X.env) :: starEach es X.env := by rfl) :
    MH X d (e :: es) ρ Lf w (ma.bind fun x => (mb x.1 x.2).bind fun y => some (x.1 :: y.1, y.2)) := by
  refine ⟨?_, fun xs w' h => ?_⟩
  · obtain ⟨t, p, h⟩ := ha
    obtain ⟨t', p', h'⟩ : ∃ tb, PA X es tb ∧ ∀ x w1, ∀ a w', mb x w1 = some (a, w') → ∀ B F0 σ H vs ds Q, St X.K B F0 ρ (Lf w1) σ H vs ds → (∀ us H', us.length = (encH d a).length → St X.K B F0 ρ (Lf w') σ H' (us ++ vs) (encH d a ++ ds) → Q us H') → tb σ H Q := by
      refine ⟨fun σ H Q => ∃ x w1 a w' B F0 vs ds, mb x w1 = some (a, w') ∧ St X.K B F0 ρ (Lf w1) σ H vs ds ∧ ∀ us H', us.length = (encH d a).length → St X.K B F0 ρ (Lf w') σ H' (us ++ vs) (encH d a ++ ds) → Q us H', ⟨fun pos pins s σ H Q I h => ?_⟩, fun x w1 a w' e B F0 σ H vs ds Q s k => ⟨x, w1, a, w', B, F0, vs, ds, e, s, k⟩⟩
      obtain ⟨x, w1, a, w', B, F0, vs, ds, e, st, k⟩ := h
      obtain ⟨tb, pb, hb⟩ := (hr x w1).1
      exact pb.run pos pins s σ H Q I (hb a w' e B F0 σ H vs ds Q st k)
    refine ⟨_, pa_cons p p' hs, fun z w3 hz B F0 σ H vs ds Q s k => ?_⟩
    obtain ⟨⟨x, w1⟩, hx, hz⟩ := Option.bind_eq_some_iff.mp hz
    obtain ⟨⟨y, w2⟩, hy, hz⟩ := Option.bind_eq_some_iff.mp hz
    cases hz
    refine h x w1 hx B F0 σ H vs ds _ s fun v H1 s1 => h' x w1 y w2 hy B F0 σ H1 _ _ _ s1 fun us H2 e2 s2 => ?_
    exact k (v :: us) H2 (by simp [encH, e2]) (s2.args e2)
  · obtain ⟨⟨x, w1⟩, hx, hz⟩ := Option.bind_eq_some_iff.mp h
    obtain ⟨⟨y, w2⟩, hy, hz⟩ := Option.bind_eq_some_iff.mp hz
    cases hz
    rw [List.length_cons, List.length_cons, (hr x w1).2 y w2 hy]
theorem m_lh {Lf : W → Ow} {w : W} {o : Option (List α × W)} (h : MH X d es ρ Lf w o) (hz : es.length ≤ 1000 := by exact Nat.le_of_ble_eq_true rfl) : EM X (dL d) (.List es pos) ρ Lf w o := by
  obtain ⟨⟨t, p, h⟩, hl⟩ := h
  refine ⟨_, pe_lst p, fun xs w' hx B F0 σ H vs ds Q s k => h xs w' hx B F0 σ H vs ds _ s fun us H1 e s1 => ?_⟩
  have e' : us.length = (xs.map d).length := by rw [e]; unfold encH; rw [List.length_map]
  have l1 := hl xs w' hx
  have sz : us.length ≤ sizeLine := by rw [e', List.length_map, l1]; exact sz_of hz
  refine ⟨sz, fun p hp => k _ _ ?_⟩
  have s2 := St.frz (L2 := []) (St.newLst (xs := (xs.map d).map .dat) s1 e hp sz)
  rw [List.append_nil] at s2
  exact s2
end
end Mir
namespace Mir
open PySem L2

section
variable {X : Cx} {α β γ δ S W : Type} {e a b c i o : Expr} {es : List Expr} {ρ ρ' : Env} {L : Ow} {p pos p2 px apos cpos : Pos} {d : α → PyData} {d' : β → PyData} {f : γ → PyData} {oa : Option α} {ob : Option β} {x y : Str} {sts rest A A' : List Stmt} {oc : δ → Oc} {j : Nat}
theorem x_chainP {op op' : CmpOp} {r r' : R2} {g : α → β → Bool} {g' : β → γ → Bool} {u : α} {v : β} {z : γ} (ho : OpR X (compareOp op) r) (ho' : OpR X (compareOp op') r') (hg : Op2 X.K r d d' dB (fun a b => some (g a b))) (hg' : Op2 X.K r' d' f dB (fun a b => some (g' a b)))
    (ha : EX X d a ρ L (some u)) (hb : EX X d' b ρ L (some v)) (hc : EX X f c ρ L (some z)) (p : OpR X (compareOp op) r → OpR X (compareOp op') r' → ∀ {ta tb tc}, PE X a ta → PE X b tb → PE X c tc → PE X (.Compare a [op, op'] [b, c] pos) (tChain r r' ta tb tc) := by intro ho ho' _ _ _ h1 h2 h3; exact pe_chain ho ho' h1 h2 h3) : EX X dB (.Compare a [op, op'] [b, c] pos) ρ L (some (g u v && g' v z)) :=
  (x_chain ho ho' hg hg' ha hb hc p).conv (by cases h : g u v <;> simp [h])

/-! ### all, any of a list of bools -/
theorem bools_sv {K : PySem.W.Frag} {F : Hp} : ∀ {us : List V} {ns : List Bool}, Paired (SvR K F) us ((ns.map dB).map .dat) → us = ns.map V.bl
  | _, [], h => by cases h; rfl
  | _, n :: ns, h => by
    cases h with
    | cons r t =>
      have r' : Rp F _ (.bool n) := r
      cases r'
      rw [List.map_cons, bools_sv t]
theorem St.lstBools {K : PySem.W.Frag} {B F0 H : Hp} {σ : L2.St} {vs : List V} {ds : List Sl} {v : V} {s : Sl} {xs : List Bool} (q : LstOf L s (xs.map dB)) (h : St K B F0 ρ L σ H (v :: vs) (s :: ds)) : ∃ a, v = .ref a ∧ H a = some (.lst (xs.map V.bl)) := by
  obtain ⟨a, us, e, h1, h2, _, h3⟩ := h.lstOf q
  obtain ⟨F, k, _, b⟩ := h3
  obtain ⟨b1, _⟩ := pr_split (by rw [List.length_map]; exact h2) b
  rw [bools_sv b1] at h1
  exact ⟨a, e, h1⟩
theorem x_all {o : Option (List Bool)} (hc : X.calm = true) (h : QL X dB e ρ L o) (hm : X.mg "all" = none) (hs : starEach [e] X.env = (false, eval e X.env) :: starEach [] X.env := by rfl)
    (hh : X.mg "all" = none → ∀ {ta}, PE X e ta → PE X (.Call (.Name "all" p) [e] [] pos) (tCB (rAll X.K) (tCons ta tNil)) := by intro hm _ h; exact pe_callB (cr_all rfl) (by rfl) hm (by decide +kernel) (pa_cons h pa_nil)) :
    EX X dB (.Call (.Name "all" p) [e] [] pos) ρ L (o.map fun xs => xs.all id) := by
  obtain ⟨t, p, h⟩ := h
  refine ⟨_, hh hm p, fun z hz B F0 σ H vs ds Q s k => ?_⟩
  obtain ⟨xs, hx, rfl⟩ := Option.map_eq_some_iff.mp hz
  refine h xs hx B F0 σ H vs ds _ s fun v sl H1 q s1 => ?_
  obtain ⟨a, rfl, h1⟩ := s1.lstBools q
  exact ⟨a, xs, rfl, SqL.of h1, k _ _ s1.pop.bl⟩
theorem x_any {o : Option (List Bool)} (hc : X.calm = true) (h : QL X dB e ρ L o) (hm : X.mg "any" = none) (hs : starEach [e] X.env = (false, eval e X.env) :: starEach [] X.env := by rfl)
    (hh : X.mg "any" = none → ∀ {ta}, PE X e ta → PE X (.Call (.Name "any" p) [e] [] pos) (tCB (rAny X.K) (tCons ta tNil)) := by intro hm _ h; exact pe_callB (cr_any rfl) (by rfl) hm (by decide +kernel) (pa_cons h pa_nil)) :
    EX X dB (.Call (.Name "any" p) [e] [] pos) ρ L (o.map fun xs => xs.any id) := by
  obtain ⟨t, p, h⟩ := h
  refine ⟨_, hh hm p, fun z hz B F0 σ H vs ds Q s k => ?_⟩
  obtain ⟨xs, hx, rfl⟩ := Option.map_eq_some_iff.mp hz
  refine h xs hx B F0 σ H vs ds _ s fun v sl H1 q s1 => ?_
  obtain ⟨a, rfl, h1⟩ := s1.lstBools q
  exact ⟨a, xs, rfl, SqL.of h1, k _ _ s1.pop.bl⟩

/-! ### xs[::-1] -/
theorem n_revs {o : Option (List α)} {k : Nat} {p1 p2 p3 : Pos} (h : QL X d e ρ L o) : EN X d (.Subscript e (.Slice none none (some (.UnaryOp .USub (.Constant (.int 1) k p1) p2)) p3) pos) ρ L (o.map List.reverse) := by
  obtain ⟨t, p, h⟩ := h
  refine ⟨_, pe_revL p, fun z hz B F0 σ H vs ds Q s k => ?_⟩
  obtain ⟨xs, hx, rfl⟩ := Option.map_eq_some_iff.mp hz
  refine h xs hx B F0 σ H vs ds _ s fun v sl H1 q s1 => ?_
  obtain ⟨a, us, rfl, h1, h2, h4, h3⟩ := s1.lstOf q
  refine ⟨a, us, rfl, SqL.of h1, fun p hp => k p _ ?_⟩
  refine St.newLst (us := us.reverse) ?_ (by rw [List.length_reverse, h2]; simp) hp (by rw [List.length_reverse]; exact h4)
  refine h3.stack fun F r => ?_
  obtain ⟨r1, r2⟩ := pr_split (by rw [List.length_map]; exact h2) r
  rw [List.map_reverse, List.map_reverse]
  exact pr_app (pr_rev r1) (by cases r2 with | cons _ t => exact t)
end

/-! t[::-1] of a tuple -/
theorem sliceApplied_rev {prog : Program} {w : World} {A : Around} {E : Value → Shared → Prop} {s : Shared} {sl : Addr} {vl vu vs : Value} {n : Nat} {Q : Int × Int × Nat → Shared → Prop} (hs : s.heap.IsSliceOf sl vl vu vs) (pl : PySem.IsPart vl none) (pu : PySem.IsPart vu none) (ps : PySem.IsPart vs (some (-1)))
    (h : Q ((n : Int) - 1, -1, n) s) : wpAny (model prog w) A (Builtin.Slice.sliceApplied (.ref sl) (pure (n : Int))) Q E s := by
  obtain ⟨os, hos, hcs, hds⟩ := id hs
  unfold Builtin.Slice.sliceApplied Builtin.Slice.sliceFields
  refine wpAny_bind (wpAny_bind (wpAny_field hos hds (x := vl) rfl (wpAny_bind (wpAny_field hos hds (x := vu) rfl (wpAny_bind (wpAny_field hos hds (x := vs) rfl (wpAny_pure ?_)))))))
  refine wpAny_bind (HT.slicePart_ ps ?_)
  show wpAny _ _ (if ((-1 : Int) == 0) = true then _ else _) _ _ s
  rw [if_neg (by decide)]
  refine wpAny_bind (HT.slicePart_ pl (wpAny_bind (HT.slicePart_ pu (wpAny_bind (wpAny_pure ?_)))))
  show wpAny _ _ (match Builtin.Slice.sliceAdjust none none (-1) (n : Int) with | (lo, hi) => pure (lo, (-1 : Int), Builtin.Slice.slicePlaces lo hi (-1))) _ _ s
  have e1 : Builtin.Slice.sliceAdjust none none (-1) (n : Int) = ((n : Int) - 1, -1) := by
    unfold Builtin.Slice.sliceAdjust
    simp
  have e2 : Builtin.Slice.slicePlaces ((n : Int) - 1) (-1) (-1) = n := by
    unfold Builtin.Slice.slicePlaces
    simp only [show ¬ ((-1 : Int) > 0) by omega, if_false]
    split <;> simp <;> omega
  rw [e1]
  show wpAny _ _ (pure ((n : Int) - 1, (-1 : Int), Builtin.Slice.slicePlaces ((n : Int) - 1) (-1) (-1))) _ _ s
  rw [e2]
  exact wpAny_pure h

theorem fm_congr {τ υ : Type} {f g : τ → Option υ} : ∀ {xs : List τ}, (∀ x ∈ xs, f x = g x) → xs.filterMap f = xs.filterMap g
  | [], _ => rfl
  | x :: xs, h => by
    rw [List.filterMap_cons, List.filterMap_cons, h x List.mem_cons_self, fm_congr fun y hy => h y (List.mem_cons_of_mem _ hy)]
theorem pick_rev (xs : Array Value) : ((List.range xs.size).filterMap fun (m : Nat) => xs[((xs.size : Int) - 1 + (m : Int) * (-1)).toNat]?).toArray = xs.toList.reverse.toArray := by
  congr 1
  apply List.ext_getElem?
  have e : ∀ m, m < xs.size → xs[((xs.size : Int) - 1 + (m : Int) * (-1)).toNat]? = xs[xs.size - 1 - m]? := fun m _ => by
    have : ((xs.size : Int) - 1 + (m : Int) * (-1)).toNat = xs.size - 1 - m := by omega
    rw [this]
  have e2 : ((List.range xs.size).filterMap fun (m : Nat) => xs[((xs.size : Int) - 1 + (m : Int) * (-1)).toNat]?) = xs.toList.reverse := by
    rw [← PySem.W.krv_all xs, ← List.filterMap_reverse, ← PySem.W.krv_range, List.filterMap_map]
    refine fm_congr fun m hm => ?_
    exact e m (List.mem_range.mp hm)
  intro j
  rw [e2]
section
variable {prog : Program} {w : World} {A : Around} {E : Value → Shared → Prop} {s : Shared}
open PyProof.Rows in
theorem getItem_tuple_rev {t sl : Addr} {items : Array Value} {vl vu vs : Value} {Q : Value → Shared → Prop} (ht : IsTup s.heap t items) (hs : s.heap.IsSliceOf sl vl vu vs) (pl : PySem.IsPart vl none) (pu : PySem.IsPart vu none) (ps : PySem.IsPart vs (some (-1)))
    (h : Q (.ref s.heap.objs.size) { s with heap := s.heap.push { cls := .type "tuple", data := .seq items.toList.reverse.toArray } })
    (hsz : items.size ≤ sizeLine) : wpAny (model prog w) A (getItem (.ref t) (.ref sl)) Q E s := by
  have htake : sizeOk (.seq items.toList.reverse.toArray) := by
    show items.toList.reverse.toArray.size ≤ sizeLine
    rw [List.size_toArray, List.length_reverse, Array.length_toList]
    exact hsz
  obtain ⟨os, hos, hcs, hds⟩ := id hs
  have hTs : s.TypeIs (.ref sl) "slice" := ⟨os, hos, hcs⟩
  unfold getItem
  try with_reducible refine wpAny_holding ?_
  first | refine wpAny_bind (wpAny_pure ?_) | skip
  refine wpAny_bind (wpAny_sequenceKey ht.typeIs (by decide) ?_)
  refine wpAny_bind (wpAny_callSpecial?_slot (name := Str.ofString "__getitem__") ht.typeIs PyProof.Rows.slot_tuple_getitem
    (wpAny_call_entry PyProof.Rows.slot_tuple_getitem ht.typeIs entry_tuple_getitem ?_ (args_tuple_getitem _ _)))
  show wpAny _ _ (Builtin.Tuple.tupleItemsOf (.ref t) >>= _) _ _ s
  refine wpAny_bind (tupleItemsOf_ ht ?_)
  refine wpAny_bind (wpAny_typeOf hTs ?_)
  rw [if_pos (by decide)]
  refine wpAny_bind (sliceApplied_rev hs pl pu ps ?_)
  have hno : ¬ ((((items.size : Int) - 1) == 0 && (-1 : Int) == 1 && items.size == items.size) = true) := by
    intro q
    rw [Bool.and_eq_true, Bool.and_eq_true] at q
    exact absurd q.1.2 (by decide)
  show wpAny _ _ (if ((((items.size : Int) - 1) == 0 && (-1 : Int) == 1 && items.size == items.size) = true) then _ else _) _ _ s
  rw [if_neg hno, pick_rev]
  first
    | exact wpAny_bind (m := Builtin.Tuple.tupleExact _) (wpAny_newObj_type (wpAny_pure ⟨_, rfl, wpAny_pure h⟩) htake)
    | exact wpAny_bind (m := Builtin.Tuple.tupleExact _) (wpAny_newObj_type (wpAny_bind (wpAny_pure (wpAny_pure ⟨_, rfl, wpAny_pure h⟩))) htake)
    | exact wpAny_bind (wpAny_bind (m := Builtin.Tuple.tupleExact _) (wpAny_newObj_type (wpAny_pure (wpAny_pure ⟨_, rfl, wpAny_pure h⟩)) htake))
    | exact wpAny_bind (wpAny_bind (m := Builtin.Tuple.tupleExact _) (wpAny_newObj_type (wpAny_pure ⟨_, rfl, wpAny_pure h⟩) htake))
end
open PySem.Spec PyProof.Rows in
def tRevT (K : PySem.W.Frag) (te : TE) : TE := fun σ H Q => te σ H fun x H1 => ∃ a xs, x = .ref a ∧ SqT K H1 a xs ∧ ∀ p, H1 p = none → Q (.ref p) (upd H1 p (.tup xs.reverse))
open PySem.Spec PyProof.Rows in
theorem pe_revT {X : Cx} {e : Expr} {te : TE} {k : Nat} {p1 p2 p3 pos : Pos} (he : PE X e te) : PE X (.Subscript e (.Slice none none (some (.UnaryOp .USub (.Constant (.int 1) k p1) p2)) p3) pos) (tRevT X.K te) := by
  refine ⟨fun pins s σ H Q I h => ?_⟩
  refine Subscript_ (thn (he.run pins s σ H _ I h) fun v s1 ⟨x, H1, I1, r1, q1⟩ => ?_)
  obtain ⟨a, xs, ex, hx, q⟩ := q1
  subst ex
  cases r1
  have hst : PO X (some (.UnaryOp .USub (.Constant (.int 1) k p1) p2)) (tPart (tUn (rU fun i => .int (-i)) (tC (.int 1)))) := po_some (pe_un un_neg pe_int)
  refine wpAny_Slice (thn (po_none.run pins s1 σ H1 (fun o H2 => o = none ∧ H2 = H1) I1 ⟨rfl, rfl⟩) fun vl s2 ⟨l, H2, I2, pl, el, e2⟩ => ?_)
  subst el e2
  refine thn (po_none.run pins s2 σ H2 (fun o H3 => o = none ∧ H3 = H2) I2 ⟨rfl, rfl⟩) fun vu s3 ⟨u, H3, I3, pu, eu, e3⟩ => ?_
  subst eu e3
  refine thn (hst.run pins s3 σ H3 (fun o H4 => o = some (-1) ∧ H4 = H3) I3 ⟨1, rfl, -1, rfl, rfl, rfl⟩) fun vs s4 ⟨o, H4, I4, ps, eo, e4⟩ => ?_
  subst eo e4
  have I5 : Inv X pins σ H4 { s4 with heap := s4.heap.push { cls := .type "slice", data := .fields #[vl, vu, vs] } } := I4.kept (t' := s4.toks) fun b ob q => Heap.get?_push_of_some _ q
  obtain ⟨its, r, ht, hz⟩ := I5.tuple hx
  have hlen := r.length
  show wpAny (model X.prog X.w) X.A (subscriptTail e (.Slice none none (some (.UnaryOp .USub (.Constant (.int 1) k p1) p2)) p3) (.ref a) (.ref s4.heap.objs.size)) (EP X pins σ Q) X.xe { s4 with heap := s4.heap.push { cls := .type "slice", data := .fields #[vl, vu, vs] } }
  refine tail_any (ops := [.ref a, .ref s4.heap.objs.size]) ht.typeIs PyProof.Rows.slot_tuple_getitem.lookup ?_ (by with_unfolding_all rfl)
  refine getItem_tuple_rev ht (Heap.IsSliceOf.new _ vl vu vs) pl pu ps ?_ (by rw [List.size_toArray]; omega)
  refine ⟨.ref _, _, I5.laid (t' := s4.toks) (o := .tup xs.reverse) (fun b ob q => Heap.get?_push_of_some _ q) (Nat.le_refl _) ?_, rfl, q _ (I5.hok.fresh (Nat.le_refl _))⟩
  exact ⟨by rw [List.length_reverse]; exact hz, _, r.reverse, IsTup.new _ _⟩
theorem x_revsT {X : Cx} {α : Type} {e : Expr} {ρ : Env} {L : Ow} {pos : Pos} {d : α → PyData} {o : Option (List α)} {k : Nat} {p1 p2 p3 : Pos} (h : EX X (dT d) e ρ L o) : EX X (dT d) (.Subscript e (.Slice none none (some (.UnaryOp .USub (.Constant (.int 1) k p1) p2)) p3) pos) ρ L (o.map List.reverse) := by
  obtain ⟨t, p, h⟩ := h
  refine ⟨_, pe_revT p, fun z hz B F0 σ H vs ds Q s k => ?_⟩
  obtain ⟨xs, hx, rfl⟩ := Option.map_eq_some_iff.mp hz
  refine h xs hx B F0 σ H vs ds _ s fun v H1 s1 => ?_
  obtain ⟨a, us, rfl, h1, h2, h4, h3⟩ := s1.tup1
  refine ⟨a, us, rfl, SqT.of h1, fun p hp => k _ _ ?_⟩
  refine St.newTup (us := us.reverse) ?_ (by rw [List.length_reverse, h2]; simp) hp (by rw [List.length_reverse]; exact h4)
  refine h3.stack fun F r => ?_
  obtain ⟨r1, r2⟩ := pr_split (by rw [List.length_map]; exact h2) r
  rw [List.map_reverse, List.map_reverse]
  exact pr_app (pr_rev r1) (by cases r2 with | cons _ t => exact t)
end Mir
namespace Mir
open PySem L2

/-! ### comprehensions of two fors -/
noncomputable def flatO {α β : Type} (k : α → Option (List β)) (xs : List α) : Option (List β) := (mapO k xs).bind fun yss => szO yss.flatten.length yss.flatten
theorem mapO_true {α β : Type} (k : α → Option β) : ∀ xs : List α, filtO (fun _ => some true) k xs = mapO k xs
  | [] => rfl
  | x :: xs => by simp only [filtO, mapO, Option.bind_some, if_true, mapO_true k xs]
theorem mapO_cons {α β : Type} {k : α → Option β} {x : α} {xs : List α} {zs : List β} (h : mapO k (x :: xs) = some zs) : ∃ y ys, k x = some y ∧ mapO k xs = some ys ∧ zs = y :: ys := by
  obtain ⟨y, hy, h⟩ := Option.bind_eq_some_iff.mp h
  obtain ⟨ys, hys, e⟩ := Option.map_eq_some_iff.mp h
  exact ⟨y, ys, hy, hys, e.symm⟩
section
variable {K : PySem.W.Frag} {α β : Type}
theorem in_read {wi : TI} {g : TG} {tt : TT} {te : TE} {ws : List Nat} {ρ : Env} {ρb : α → Env} {L : Ow} {PL : Ow → Prop} {en : α → Sl} {xs : List α} {ys acc0 : List β} {d : β → PyData} {c : α → Option Bool} {k : α → Option β} {D : Addr}
    {B F0 : Hp} {σ : L2.St} {H : Hp} {vs : List V} {ds : List Sl} {Nx : Hp → Prop}
    (hwi : ∀ R : It → Hp → Prop, (∀ J H1 pv pd, pv.length = pd.length → xs.length ≤ sizeLine → St K B F0 ρ (L ++ [(D, .lst ((acc0.map d).map .dat))]) σ H1 (pv ++ vs) (pd ++ ds) → Walk K J pv pd PL en xs → R J H1) → wi σ H R)
    (hPL : ∀ M, PL (L ++ M))
    (hg : ∀ x M σ H v vs ds Q, St K B F0 (wipeE ρ ws) (L ++ M) σ H (v :: vs) (en x :: ds) → (∀ σ' H', wipe σ' ws = wipe σ ws → St K B F0 (ρb x) (L ++ M) σ' H' vs ds → Q σ' H') → g v σ H Q)
    (ht : ∀ x b, c x = some b → ∀ M σ H vs ds Q, St K B F0 (ρb x) (L ++ M) σ H vs ds → (∀ H', St K B F0 (ρb x) (L ++ M) σ H' vs ds → Q b H') → tt σ H Q)
    (he : ∀ x a, k x = some a → ∀ M σ H vs ds Q, St K B F0 (ρb x) (L ++ M) σ H vs ds → (∀ v H', St K B F0 (ρb x) (L ++ M) σ H' (v :: vs) (.dat (d a) :: ds) → Q v H') → te σ H Q)
    (hm : filtO c k xs = some ys) (hS : ∃ F, Paired (SlR K F) σ ρ) (hsz : acc0.length + ys.length ≤ sizeLine)
    (hQ : ∀ H', St K B F0 ρ (L ++ [(D, .lst (((acc0 ++ ys).map d).map .dat))]) σ H' vs ds → Nx H') :
    wi σ H fun J1 H4 => ∃ W1 : Nat → Nat → Hp → Prop, (∃ m, W1 0 m H4) ∧ ∀ j k H, W1 j k H →
      (J1.stop j H ∧ Nx H) ∨ (J1.go j H ∧ ∃ Nx1 : Hp → Prop, (∀ H', Nx1 H' → ∃ k', k' < k ∧ W1 (j + 1) k' H') ∧ ∀ x H', J1.yld j H x H' → g x (wipe σ ws) H' fun σ3 H5 => wipe σ3 ws = wipe σ ws ∧ tt σ3 H5 fun b H6 =>
        if b = true then te σ3 H6 fun y H7 => ∃ acc, H7 D = some (.lst acc) ∧ acc.length < sizeLine ∧ Nx1 (upd H7 D (.lst (acc ++ [y]))) else Nx1 H6) := by
  refine hwi _ fun J H1 pv pd hl hz s1 w => ?_
  refine ⟨fun i m H => m = xs.length - i ∧ i ≤ xs.length ∧ ∃ (acc rest : List β), filtO c k (xs.drop i) = some rest ∧ acc0 ++ ys = acc ++ rest ∧ St K B F0 ρ (L ++ [(D, .lst ((acc.map d).map .dat))]) σ H (pv ++ vs) (pd ++ ds),
    ⟨_, rfl, Nat.zero_le _, acc0, ys, hm, rfl, s1⟩, ?_⟩
  rintro i m H2 ⟨rfl, hi, acc, rest, hr, ey, s2⟩
  obtain ⟨w3, w4⟩ := w B F0 _ _ σ H2 vs ds i (hPL _) s2
  by_cases hlt : i < xs.length
  · obtain ⟨go, yl⟩ := w4 xs[i] (List.getElem?_eq_getElem hlt)
    rw [List.drop_eq_getElem_cons hlt] at hr
    obtain ⟨b, hb, hr⟩ := Option.bind_eq_some_iff.mp hr
    refine .inr ⟨go, fun H => ∃ (acc rest : List β), filtO c k (xs.drop (i + 1)) = some rest ∧ acc0 ++ ys = acc ++ rest ∧ St K B F0 ρ (L ++ [(D, .lst ((acc.map d).map .dat))]) σ H (pv ++ vs) (pd ++ ds),
      fun H' q => ⟨xs.length - (i + 1), by omega, rfl, hlt, q⟩, fun y H' hy => ?_⟩
    have s3 := yl y H' hy
    have s4 : St K B F0 ρ (L ++ [(D, .lst ((acc.map d).map .dat))]) σ H' (y :: (liveV σ ρ ++ (pv ++ vs))) (en xs[i] :: (liveS σ ρ ++ (pd ++ ds))) := by
      obtain ⟨F, k', a, b'⟩ := s3
      cases b' with
      | cons r t => exact ⟨F, k', a, .cons r (pr_app (live_of a) t)⟩
    refine hg xs[i] _ _ H' y _ _ _ (s4.wipe ws) fun σ5 H5 e5 s5 => ⟨?_, ?_⟩
    · rw [e5]
      apply List.ext_getElem?
      intro j
      simp only [wipe_get]
      by_cases hj : j ∈ ws
      · simp only [if_pos hj]
        cases σ[j]? <;> rfl
      · simp only [if_neg hj]
    · refine ht xs[i] b hb _ σ5 H5 _ _ _ s5 fun H6 s6 => ?_
      cases b with
      | false =>
        refine iteF ⟨acc, rest, by simpa using hr, ey, s6.back hS⟩
      | true =>
        rw [if_pos rfl] at hr
        obtain ⟨a, hk, hr⟩ := Option.bind_eq_some_iff.mp hr
        obtain ⟨r2, hr2, er⟩ := Option.map_eq_some_iff.mp hr
        refine iteT (he xs[i] a hk _ σ5 H6 _ _ _ s6 fun v H7 s7 => ?_)
        have m7 : (D, OD.lst ((acc.map d).map .dat)) ∈ L ++ [(D, OD.lst ((acc.map d).map .dat))] := List.mem_append_right _ (by simp)
        obtain ⟨us, h1, h2, _, _⟩ := s7.own1 m7
        have h2' : us.length = acc.length := by rw [h2, List.length_map, List.length_map]
        have hlen : acc.length + (a :: r2).length ≤ sizeLine := by
          have := congrArg List.length ey
          rw [List.length_append, List.length_append] at this
          rw [er, ← this]
          exact hsz
        rw [List.length_cons] at hlen
        refine ⟨us, h1, by omega, acc ++ [a], r2, hr2, ?_, ?_⟩
        · rw [ey, ← er, List.append_assoc]; rfl
        · obtain ⟨F, k', sl, sv⟩ := s7
          cases sv with
          | cons r t =>
            obtain ⟨_, _, us', h1', q⟩ := k'.own _ m7
            have e : us' = us := by
              have e := h1'.symm.trans h1
              injection e with e
              injection e
            subst e
            have k2 := Ok.write (L2 := []) (d' := OD.lst (((acc ++ [a]).map d).map .dat)) (o := .lst (us' ++ [v])) k' (by show (us' ++ [v]).length ≤ sizeLine; rw [List.length_append]; show us'.length + 1 ≤ sizeLine; omega)
              ⟨_, upd_same, by rw [List.map_append, List.map_append]; exact pr_app q (.cons r .nil)⟩
            exact St.back hS ⟨F, k2, sl, t⟩
  · have e : i = xs.length := by omega
    have e2 : xs.drop i = [] := by rw [e]; exact List.drop_length
    rw [e2] at hr
    have e3 : rest = [] := by
      have : ([] : List β) = rest := by simpa [filtO] using hr
      exact this.symm
    subst e3
    rw [List.append_nil] at ey
    refine .inl ⟨w3 e, hQ H2 ?_⟩
    rw [ey]
    exact s2.stack fun F r => (pr_split hl r).2
/-- the outer for -/
theorem lc2_read {γ : Type} {wi wi1 : TI} {g g1 : TG} {tt tt1 : TT} {te : TE} {ws ws1 : List Nat} {ρ : Env} {ρb : α → Env} {ρc : α → γ → Env} {L : Ow} {PL PL1 : Ow → Prop} {en : α → Sl} {en1 : γ → Sl} {xs : List α} {ys : List β} {d : β → PyData} {c0 : α → Option Bool} {o1 : α → Option (List γ)} {c : α → γ → Option Bool} {k : α → γ → Option β}
    {B F0 : Hp} {σ : L2.St} {H : Hp} {vs : List V} {ds : List Sl} {Q : VK}
    (hwi : ∀ R : It → Hp → Prop, (∀ J H1 pv pd, pv.length = pd.length → xs.length ≤ sizeLine → St K B F0 ρ L σ H1 (pv ++ vs) (pd ++ ds) → Walk K J pv pd PL en xs → R J H1) → wi σ H R)
    (hPL : ∀ M, PL (L ++ M)) (hPL1 : ∀ M, PL1 (L ++ M))
    (hg : ∀ x M σ H v vs ds Q, St K B F0 (wipeE ρ ws) (L ++ M) σ H (v :: vs) (en x :: ds) → (∀ σ' H', wipe σ' ws = wipe σ ws → St K B F0 (ρb x) (L ++ M) σ' H' vs ds → Q σ' H') → g v σ H Q)
    (ht0 : ∀ x b, c0 x = some b → ∀ M σ H vs ds Q, St K B F0 (ρb x) (L ++ M) σ H vs ds → (∀ H', St K B F0 (ρb x) (L ++ M) σ H' vs ds → Q b H') → tt σ H Q)
    (hwi1 : ∀ x zs, o1 x = some zs → ∀ M σ H vs ds, St K B F0 (ρb x) (L ++ M) σ H vs ds → ∀ R : It → Hp → Prop, (∀ J H1 pv pd, pv.length = pd.length → zs.length ≤ sizeLine → St K B F0 (ρb x) (L ++ M) σ H1 (pv ++ vs) (pd ++ ds) → Walk K J pv pd PL1 en1 zs → R J H1) → wi1 σ H R)
    (hg1 : ∀ x z M σ H v vs ds Q, St K B F0 (wipeE (ρb x) ws1) (L ++ M) σ H (v :: vs) (en1 z :: ds) → (∀ σ' H', wipe σ' ws1 = wipe σ ws1 → St K B F0 (ρc x z) (L ++ M) σ' H' vs ds → Q σ' H') → g1 v σ H Q)
    (ht : ∀ x z b, c x z = some b → ∀ M σ H vs ds Q, St K B F0 (ρc x z) (L ++ M) σ H vs ds → (∀ H', St K B F0 (ρc x z) (L ++ M) σ H' vs ds → Q b H') → tt1 σ H Q)
    (he : ∀ x z a, k x z = some a → ∀ M σ H vs ds Q, St K B F0 (ρc x z) (L ++ M) σ H vs ds → (∀ v H', St K B F0 (ρc x z) (L ++ M) σ H' (v :: vs) (.dat (d a) :: ds) → Q v H') → te σ H Q)
    (hm : flatO (fun x => (c0 x).bind fun b => if b then (o1 x).bind fun zs => filtO (c x) (k x) zs else some []) xs = some ys) (hS : ∃ F, Paired (SlR K F) σ ρ)
    (hQ : ∀ D H', St K B F0 ρ (L ++ [(D, .lst ((ys.map d).map .dat))]) σ H' (.ref D :: vs) (.ptr D :: ds) → Q (.ref D) H') : tLc2 wi g tt wi1 g1 tt1 te ws ws1 σ H Q := by
  obtain ⟨yss, hm, hz0⟩ := Option.bind_eq_some_iff.mp hm
  unfold szO at hz0
  split at hz0
  rotate_left
  · cases hz0
  rename_i hsz
  have eys : yss.flatten = ys := by simpa using hz0
  refine hwi _ fun J H1 pv pd hl hz s1 w => ?_
  intro D hD
  refine ⟨fun i m H => m = xs.length - i ∧ i ≤ xs.length ∧ ∃ (acc : List β) (rest : List (List β)), mapO (fun x => (c0 x).bind fun b => if b then (o1 x).bind fun zs => filtO (c x) (k x) zs else some []) (xs.drop i) = some rest ∧ ys = acc ++ rest.flatten ∧ St K B F0 ρ (L ++ [(D, .lst ((acc.map d).map .dat))]) σ H (pv ++ vs) (pd ++ ds),
    ⟨_, rfl, Nat.zero_le _, [], yss, hm, eys.symm, ?_⟩, ?_⟩
  · exact (St.newLst (us := []) (xs := []) s1 rfl hD (Nat.zero_le _)).pop
  rintro i m H2 ⟨rfl, hi, acc, rest, hr, ey, s2⟩
  obtain ⟨w3, w4⟩ := w B F0 _ _ σ H2 vs ds i (hPL _) s2
  by_cases hlt : i < xs.length
  · obtain ⟨go, yl⟩ := w4 xs[i] (List.getElem?_eq_getElem hlt)
    rw [List.drop_eq_getElem_cons hlt] at hr
    obtain ⟨as, rest', ha, hr', rfl⟩ := mapO_cons hr
    obtain ⟨b, hb, ha⟩ := Option.bind_eq_some_iff.mp ha
    refine .inr ⟨go, fun H => ∃ (acc : List β) (rest : List (List β)), mapO (fun x => (c0 x).bind fun b => if b then (o1 x).bind fun zs => filtO (c x) (k x) zs else some []) (xs.drop (i + 1)) = some rest ∧ ys = acc ++ rest.flatten ∧ St K B F0 ρ (L ++ [(D, .lst ((acc.map d).map .dat))]) σ H (pv ++ vs) (pd ++ ds),
      fun H' q => ⟨xs.length - (i + 1), by omega, rfl, hlt, q⟩, fun y H' hy => ?_⟩
    have s3 := yl y H' hy
    have s4 : St K B F0 ρ (L ++ [(D, .lst ((acc.map d).map .dat))]) σ H' (y :: (liveV σ ρ ++ (pv ++ vs))) (en xs[i] :: (liveS σ ρ ++ (pd ++ ds))) := by
      obtain ⟨F, k', a, b'⟩ := s3
      cases b' with
      | cons r t => exact ⟨F, k', a, .cons r (pr_app (live_of a) t)⟩
    refine hg xs[i] _ _ H' y _ _ _ (s4.wipe ws) fun σ5 H5 e5 s5 => ⟨?_, ?_⟩
    · rw [e5]
      apply List.ext_getElem?
      intro j
      simp only [wipe_get]
      by_cases hj : j ∈ ws
      · simp only [if_pos hj]
        cases σ[j]? <;> rfl
      · simp only [if_neg hj]
    · refine ht0 xs[i] b hb _ σ5 H5 _ _ _ s5 fun H6 s6 => ?_
      cases b with
      | false =>
        have e : [] = as := by simpa using ha
        subst e
        refine iteF ⟨acc, rest', hr', by rw [ey]; rfl, s6.back hS⟩
      | true =>
        rw [if_pos rfl] at ha
        obtain ⟨zs, hzs, ha⟩ := Option.bind_eq_some_iff.mp ha
        refine iteT (in_read (wi := wi1) (g := g1) (tt := tt1) (te := te) (ws := ws1) (PL := PL1) (acc0 := acc) (d := d) (hwi1 xs[i] zs hzs _ σ5 H6 _ _ s6) hPL1 (hg1 xs[i]) (ht xs[i]) (he xs[i]) ha s6.slots ?_ fun H7 s7 => ?_)
        · have := congrArg List.length ey
          rw [List.length_append, List.flatten_cons, List.length_append] at this
          have e2 := congrArg List.length eys
          omega
        · exact ⟨acc ++ as, rest', hr', by rw [ey, List.flatten_cons, List.append_assoc], s7.back hS⟩
  · have e : i = xs.length := by omega
    have e2 : xs.drop i = [] := by rw [e]; exact List.drop_length
    rw [e2] at hr
    have e3 : rest = [] := by
      have : ([] : List (List β)) = rest := by simpa [mapO] using hr
      exact this.symm
    subst e3
    rw [List.flatten_nil, List.append_nil] at ey
    subst ey
    refine .inl ⟨w3 e, hQ D H2 ?_⟩
    have s5 : St K B F0 ρ (L ++ [(D, .lst ((ys.map d).map .dat))]) σ H2 vs ds := s2.stack fun F r => (pr_split hl r).2
    exact s5.push fun F => rfl
end

section
variable {X : Cx} {α β γ ν κ W : Type} {e tg iter elt c tg1 iter1 : Expr} {ρ ρ' : Env} {L : Ow} {pos : Pos} {d : α → PyData} {rest : List Stmt}
theorem GY.bk2 {scope : Scope} {ρf ρf' : α → Env} {sf : α → Sl} {ws : List Nat} (h : Bk X scope fun X => ∀ x, GY X tg (ρf x) (sf x) (ρf' x) ws) :
    ∃ g, Bk X scope (fun X => PG X tg g) ∧ ∀ x L B F0 σ H v vs ds Q, St X.K B F0 (ρf x) L σ H (v :: vs) (sf x :: ds) → (∀ σ' H', wipe σ' ws = wipe σ ws → St X.K B F0 (ρf' x) L σ' H' vs ds → Q σ' H') → g v σ H Q := by
  refine ⟨fun v σ H Q => ∃ x L B F0 vs ds, St X.K B F0 (ρf x) L σ H (v :: vs) (sf x :: ds) ∧ ∀ σ' H', wipe σ' ws = wipe σ ws → St X.K B F0 (ρf' x) L σ' H' vs ds → Q σ' H', fun s1 H1 C cl fp => ⟨fun pins s σ H v u Q I r h2 => ?_⟩, fun x L B F0 σ H v vs ds Q q k => ⟨x, L, B, F0, vs, ds, q, k⟩⟩
  obtain ⟨x, L, B, F0, vs, ds, q, k⟩ := h2
  obtain ⟨g, p, h⟩ := h s1 H1 C cl fp x
  exact p.run pins s σ H v u Q I r (h L B F0 σ H v vs ds Q q k)
theorem IX.bk {scope : Scope} {ρf : γ → Env} {PL : Ow → Prop} {en : α → Sl} {k : γ → Option (List α)} (h : Bk X scope fun X => ∀ x M, IX X tg iter (ρf x) (L ++ M) PL true en (k x)) :
    ∃ wi, Bk X scope (fun X => PI X tg iter wi) ∧ ∀ x zs, k x = some zs → ∀ M B F0 σ H vs ds, St X.K B F0 (ρf x) (L ++ M) σ H vs ds → ∀ R : It → Hp → Prop, (∀ J H1 pv pd, pv.length = pd.length → zs.length ≤ sizeLine → St X.K B F0 (ρf x) (L ++ M) σ H1 (pv ++ vs) (pd ++ ds) → Walk X.K J pv pd PL en zs → R J H1) → wi σ H R := by
  refine ⟨fun σ H R => ∃ x zs M B F0 vs ds, k x = some zs ∧ St X.K B F0 (ρf x) (L ++ M) σ H vs ds ∧ ∀ J H1 pv pd, pv.length = pd.length → zs.length ≤ sizeLine → St X.K B F0 (ρf x) (L ++ M) σ H1 (pv ++ vs) (pd ++ ds) → Walk X.K J pv pd PL en zs → R J H1, fun s1 H1 C cl fp => ⟨fun pins s σ H R I h2 => ?_⟩,
    fun x zs e M B F0 σ H vs ds q R r => ⟨x, zs, M, B, F0, vs, ds, e, q, r⟩⟩
  obtain ⟨x, zs, M, B, F0, vs, ds, e, q, r⟩ := h2
  obtain ⟨wi, p, h⟩ := h s1 H1 C cl fp x M
  exact p.run pins s σ H R I (h zs e B F0 σ H vs ds R q fun J H1 pv pd a b c d => r J H1 pv pd a (b rfl) c d)
/-- the tests of a for, none or one -/
def PTB (X : Cx) (ifs : List Expr) (scope : Scope) (ρb : γ → Env) (L : Ow) (c : γ → Option Bool) : Prop :=
  ∃ t, Bk X scope (fun X => PTs X ifs t) ∧ ∀ x b, c x = some b → ∀ M B F0 σ H vs ds Q, St X.K B F0 (ρb x) (L ++ M) σ H vs ds → (∀ H', St X.K B F0 (ρb x) (L ++ M) σ H' vs ds → Q b H') → t σ H Q
theorem tb_no {scope : Scope} {ρb : γ → Env} : PTB X [] scope ρb L (fun _ => some true) := ⟨_, fun s H C cl fp => pts_nil, fun x b e M B F0 σ H vs ds Q s q => by cases e; exact q H s⟩
theorem tb_if {scope : Scope} {ρb : γ → Env} {cf : γ → Option Bool} (h : Bk X scope fun X => ∀ x M, TX X c (ρb x) (L ++ M) (cf x)) : PTB X [c] scope ρb L cf := by
  obtain ⟨tt, pt, ht⟩ := TM.bk (Lf := fun _ : Unit => L) (TX.bk h)
  exact ⟨tt, fun s H C cl fp => pts_one (pt s H C cl fp), fun x b e M B F0 σ H vs ds Q s q => ht x () b () (by rw [e]; rfl) M B F0 σ H vs ds Q s q⟩
theorem EX.bk1 {scope : Scope} {ρf : γ → Env} {k : γ → Option α} (h : Bk X scope fun X => ∀ x M, EX X d e (ρf x) (L ++ M) (k x)) :
    ∃ t, Bk X scope (fun X => PE X e t) ∧ ∀ x a, k x = some a → ∀ M B F0 σ H vs ds Q, St X.K B F0 (ρf x) (L ++ M) σ H vs ds → (∀ v H', St X.K B F0 (ρf x) (L ++ M) σ H' (v :: vs) (.dat (d a) :: ds) → Q v H') → t σ H Q := by
  obtain ⟨te, pe, he⟩ := EM.bk (Lf := fun _ : Unit => L) (EX.bk h)
  exact ⟨te, pe, fun x a e M B F0 σ H vs ds Q s q => he x () a () (by rw [e]; rfl) M B F0 σ H vs ds Q s q⟩
/-- a comprehension of two fors -/
def LCB (X : Cx) {α : Type} (tg iter tg1 iter1 elt : Expr) (ifs ifs1 : List Expr) (scope : Scope) (own : List (Str × Nat)) (ws1 : List Nat) (d : α → PyData) (ρ : Env) (L : Ow) (o : Option (List α)) : Prop :=
  ∃ wi g tt wi1 g1 tt1 te, PI X tg iter wi ∧ Bk X scope (fun X => PG X tg g) ∧ Bk X scope (fun X => PTs X ifs tt) ∧ Bk X scope (fun X => PI X tg1 iter1 wi1) ∧ Bk X scope (fun X => PG X tg1 g1) ∧ Bk X scope (fun X => PTs X ifs1 tt1) ∧ Bk X scope (fun X => PE X elt te) ∧
    ∀ ys, o = some ys → ∀ B F0 σ H vs ds Q, St X.K B F0 ρ L σ H vs ds → (∀ p H', St X.K B F0 ρ (L ++ [(p, .lst ((ys.map d).map .dat))]) σ H' (.ref p :: vs) (.ptr p :: ds) → Q (.ref p) H') → tLc2 wi g tt wi1 g1 tt1 te (own.map (·.2)) ws1 σ H Q
/-- .. of the inner for -/
def PTB2 (X : Cx) (ifs : List Expr) (scope : Scope) (ρc : β → γ → Env) (L : Ow) (c : β → γ → Option Bool) : Prop := PTB X ifs scope (fun q : β × γ => ρc q.1 q.2) L (fun q => c q.1 q.2)
theorem tb_no2 {scope : Scope} {ρc : β → γ → Env} : PTB2 X [] scope ρc L (fun _ _ => some true) := tb_no
theorem tb_if2 {scope : Scope} {ρc : β → γ → Env} {cf : β → γ → Option Bool} (h : Bk X scope fun X => ∀ x z M, TX X c (ρc x z) (L ++ M) (cf x z)) : PTB2 X [c] scope ρc L cf := tb_if fun s H C cl fp q M => h s H C cl fp q.1 q.2 M
theorem lp_2 {scope : Scope} {own : List (Str × Nat)} (ws1 : List Nat) {ifs ifs1 : List Expr} {PL PL1 : Ow → Prop} {en : β → Sl} {en1 : γ → Sl} {o : Option (List β)} {ρb : β → Env} {ρc : β → γ → Env} {c0 : β → Option Bool} {o1 : β → Option (List γ)} {cf : β → γ → Option Bool} {k : β → γ → Option α}
    (hi : IX X tg iter ρ L PL true en o) (hPL : ∀ M, PL (L ++ M)) (hg : Bk X scope fun X => ∀ x, GY X tg (wipeE ρ (own.map (·.2))) (en x) (ρb x) (own.map (·.2)))
    (ht0 : PTB X ifs scope ρb L c0) (hi1 : Bk X scope fun X => ∀ x M, IX X tg1 iter1 (ρb x) (L ++ M) PL1 true en1 (o1 x)) (hPL1 : ∀ M, PL1 (L ++ M))
    (hg1 : Bk X scope fun X => ∀ x z, GY X tg1 (wipeE (ρb x) ws1) (en1 z) (ρc x z) ws1)
    (ht : PTB2 X ifs1 scope ρc L cf) (he : Bk X scope fun X => ∀ x z M, EX X d elt (ρc x z) (L ++ M) (k x z)) :
    LCB X tg iter tg1 iter1 elt ifs ifs1 scope own ws1 d ρ L (o.bind fun xs => flatO (fun x => (c0 x).bind fun b => if b then (o1 x).bind fun zs => filtO (cf x) (k x) zs else some []) xs) := by
  obtain ⟨wi, pi, hi⟩ := hi
  obtain ⟨g, pg, hg⟩ := GY.bk hg
  obtain ⟨tt, pt, ht0⟩ := ht0
  obtain ⟨wi1, pi1, hi1⟩ := IX.bk hi1
  obtain ⟨g1, pg1, hg1⟩ := GY.bk2 (scope := scope) (ρf := fun q : β × γ => wipeE (ρb q.1) ws1) (ρf' := fun q => ρc q.1 q.2) (sf := fun q => en1 q.2) (fun s H C cl fp q => hg1 s H C cl fp q.1 q.2)
  obtain ⟨tt1, pt1, ht⟩ := ht
  obtain ⟨te, pe, he⟩ := EX.bk1 (scope := scope) (ρf := fun q : β × γ => ρc q.1 q.2) (k := fun q => k q.1 q.2) (fun s H C cl fp q M => he s H C cl fp q.1 q.2 M)
  refine ⟨wi, g, tt, wi1, g1, tt1, te, pi, pg, pt, pi1, pg1, pt1, pe, fun ys hm B F0 σ H vs ds Q s q => ?_⟩
  obtain ⟨xs, hx, hm⟩ := Option.bind_eq_some_iff.mp hm
  exact lc2_read (fun R r => hi xs hx B F0 σ H vs ds R s fun J H1 pv pd e z s1 w => r J H1 pv pd e (z rfl) s1 w) hPL hPL1 (fun x M σ H v vs ds Q => hg x (L ++ M) B F0 σ H v vs ds Q) (fun x b e M σ H vs ds Q => ht0 x b e M B F0 σ H vs ds Q)
    (fun x zs e M σ H vs ds s R r => hi1 x zs e M B F0 σ H vs ds s R r) (fun x z M σ H v vs ds Q => hg1 (x, z) (L ++ M) B F0 σ H v vs ds Q) (fun x z b e M σ H vs ds Q => ht (x, z) b e M B F0 σ H vs ds Q) (fun x z a e M σ H vs ds Q => he (x, z) a e M B F0 σ H vs ds Q) hm s.slots q
theorem LCB.n {ifs ifs1 : List Expr} {scope : Scope} {own : List (Str × Nat)} {ws1 : List Nat} {o : Option (List α)} (h : LCB X tg iter tg1 iter1 elt ifs ifs1 scope own ws1 d ρ L o) (hN : X.N.Nodup) (ok : BlkOk X.N X.env.scope scope own) (hv : ∀ i ∈ ws1, i ∈ own.map (·.2) := by decide) (hc : X.calm = true := by rfl) (hs : ∀ x, foldedSetIterable iter X.env x = pure x := by intro _; rfl) (hs1 : ∀ env x, foldedSetIterable iter1 env x = pure x := by intro _ _; rfl) :
    EN X d (.ListComp elt [⟨tg, iter, ifs, 0⟩, ⟨tg1, iter1, ifs1, 0⟩] scope pos) ρ L o := by
  obtain ⟨wi, g, tt, wi1, g1, tt1, te, pi, pg, pt, pi1, pg1, pt1, pe, h⟩ := h
  exact ⟨_, pe_lc2 hc hN pi ok hv pg pt pi1 pg1 pt1 pe hs hs1, fun a ha => h a ha⟩
theorem LCB.s {ifs ifs1 : List Expr} {scope : Scope} {own : List (Str × Nat)} {ws1 : List Nat} {o : Option (List α)} {y : Str} {py spos : Pos} (h : LCB X tg iter tg1 iter1 elt ifs ifs1 scope own ws1 d ρ L o) (i : Nat) (hN : X.N.Nodup) (ok : BlkOk X.N X.env.scope scope own)
    (hsw : swapsWith (.ListComp elt [⟨tg, iter, ifs, 0⟩, ⟨tg1, iter1, ifs1, 0⟩] scope pos) (some (.Name y py)) spos.line X.env = pure true) (hv : ∀ i ∈ ws1, i ∈ own.map (·.2) := by decide) (hi : X.N[i]? = some y := by rfl) (hyl : X.env.scope.names.lookup y = some .local := by rfl) (hc : X.calm = true := by rfl) (hs : ∀ x, foldedSetIterable iter X.env x = pure x := by intro _; rfl) (hs1 : ∀ env x, foldedSetIterable iter1 env x = pure x := by intro _ _; rfl) :
    SX X (.Assign [.Name y py] (.ListComp elt [⟨tg, iter, ifs, 0⟩, ⟨tg1, iter1, ifs1, 0⟩] scope pos) spos) ρ L o (ocn fun ys => (ρ.set i (some (.dat (dL d ys))), L)) := by
  obtain ⟨wi, g, tt, wi1, g1, tt1, te, pi, pg, pt, pi1, pg1, pt1, pe, h⟩ := h
  refine ⟨_, ps_setLc2 hc hN hi hyl hsw pi ok hv pg pt pi1 pg1 pt1 pe hs hs1, fun a ha B F0 σ H vs ds D s k => h a ha B F0 σ H vs ds _ s fun p H1 s1 => k _ _ ?_⟩
  have s2 := St.frz (L2 := []) s1
  rw [List.append_nil] at s2
  exact s2.store i

/-! ### {k: v for x in xs} -/
def dcO {κ ν : Type} [DecidableEq κ] (k : α → Option κ) (v : α → Option ν) : List α → List (κ × ν) → Option (List (κ × ν))
  | [], acc => some acc
  | x :: xs, acc => (k x).bind fun a => (v x).bind fun b => dcO k v xs (dput acc a b)
theorem dc_read {K : PySem.W.Frag} {wi : TI} {g : TG} {tk tv : TE} {ws : List Nat} {ρ : Env} {ρb : α → Env} {L : Ow} {PL : Ow → Prop} {en : α → Sl} {xs : List α} {zs : List (Int × ν)} {dv : ν → PyData} {kf : α → Option Int} {vf : α → Option ν}
    {B F0 : Hp} {σ : L2.St} {H : Hp} {vs : List V} {ds : List Sl} {Q : VK}
    (hwi : ∀ R : It → Hp → Prop, (∀ J H1 pv pd, pv.length = pd.length → xs.length ≤ sizeLine → St K B F0 ρ L σ H1 (pv ++ vs) (pd ++ ds) → Walk K J pv pd PL en xs → R J H1) → wi σ H R)
    (hPL : ∀ M, PL (L ++ M))
    (hg : ∀ x M σ H v vs ds Q, St K B F0 (wipeE ρ ws) (L ++ M) σ H (v :: vs) (en x :: ds) → (∀ σ' H', wipe σ' ws = wipe σ ws → St K B F0 (ρb x) (L ++ M) σ' H' vs ds → Q σ' H') → g v σ H Q)
    (hk : ∀ x a, kf x = some a → ∀ M σ H vs ds Q, St K B F0 (ρb x) (L ++ M) σ H vs ds → (∀ v H', St K B F0 (ρb x) (L ++ M) σ H' (v :: vs) (.dat (dI a) :: ds) → Q v H') → tk σ H Q)
    (he : ∀ x a, vf x = some a → ∀ M σ H vs ds Q, St K B F0 (ρb x) (L ++ M) σ H vs ds → (∀ v H', St K B F0 (ρb x) (L ++ M) σ H' (v :: vs) (.dat (dv a) :: ds) → Q v H') → tv σ H Q)
    (hm : dcO kf vf xs [] = some zs) (hS : ∃ F, Paired (SlR K F) σ ρ)
    (hQ : ∀ D H', St K B F0 ρ (L ++ [(D, odK false dI dv zs)]) σ H' (.ref D :: vs) (.ptr D :: ds) → Q (.ref D) H') : tDc wi g tYes tk tv ws σ H Q := by
  refine hwi _ fun J H1 pv pd hl hz s1 w => ?_
  intro D hD
  refine ⟨fun i m H => m = xs.length - i ∧ i ≤ xs.length ∧ ∃ acc : List (Int × ν), dcO kf vf (xs.drop i) acc = some zs ∧ acc.length ≤ i ∧ St K B F0 ρ (L ++ [(D, odK false dI dv acc)]) σ H (pv ++ vs) (pd ++ ds),
    ⟨_, rfl, Nat.zero_le _, [], hm, Nat.zero_le _, ?_⟩, ?_⟩
  · obtain ⟨F, k', a, b⟩ := s1
    exact ⟨F, k'.alloc hD (Nat.zero_le _) ⟨[], upd_same, .nil⟩, a, b⟩
  rintro i m H2 ⟨rfl, hi, acc, hr, ha, s2⟩
  obtain ⟨w3, w4⟩ := w B F0 _ _ σ H2 vs ds i (hPL _) s2
  by_cases hlt : i < xs.length
  · obtain ⟨go, yl⟩ := w4 xs[i] (List.getElem?_eq_getElem hlt)
    rw [List.drop_eq_getElem_cons hlt] at hr
    obtain ⟨a, hka, hr⟩ := Option.bind_eq_some_iff.mp hr
    obtain ⟨b, hvb, hr⟩ := Option.bind_eq_some_iff.mp hr
    refine .inr ⟨go, fun H => ∃ acc : List (Int × ν), dcO kf vf (xs.drop (i + 1)) acc = some zs ∧ acc.length ≤ i + 1 ∧ St K B F0 ρ (L ++ [(D, odK false dI dv acc)]) σ H (pv ++ vs) (pd ++ ds),
      fun H' q => ⟨xs.length - (i + 1), by omega, rfl, hlt, q⟩, fun y H' hy => ?_⟩
    have s3 := yl y H' hy
    have s4 : St K B F0 ρ (L ++ [(D, odK false dI dv acc)]) σ H' (y :: (liveV σ ρ ++ (pv ++ vs))) (en xs[i] :: (liveS σ ρ ++ (pd ++ ds))) := by
      obtain ⟨F, k', a, b'⟩ := s3
      cases b' with
      | cons r t => exact ⟨F, k', a, .cons r (pr_app (live_of a) t)⟩
    refine hg xs[i] _ _ H' y _ _ _ (s4.wipe ws) fun σ5 H5 e5 s5 => ⟨?_, ?_⟩
    · rw [e5]
      apply List.ext_getElem?
      intro j
      simp only [wipe_get]
      by_cases hj : j ∈ ws
      · simp only [if_pos hj]
        cases σ[j]? <;> rfl
      · simp only [if_neg hj]
    · simp only [tYes, if_true]
      refine hk xs[i] a hka _ σ5 H5 _ _ _ s5 fun u H6 s6 => he xs[i] b hvb _ σ5 H6 _ _ _ s6 fun v H7 s7 => ?_
      have eu : u = .int a := s7.pop.isInt
      subst eu
      have m7 : (L ++ [(D, odK false dI dv acc)])[L.length]? = some (D, odK false dI dv acc) := by simp
      obtain ⟨F, k', sl, sv⟩ := s7
      cases sv with
      | cons r t =>
        cases t with
        | cons r2 t =>
          have O := k'.at_ m7
          obtain ⟨ws', h1, h2⟩ := O
          have hlen : ws'.length = acc.length := by rw [Paired.length h2, List.length_map]
          refine ⟨ws', .inl a, rfl, h1, by omega, dput acc a b, hr, Nat.le_trans (dput_length _ _ _) (by omega), ?_⟩
          have h3 := dr_put (c := kD) (f := fun i : Int => .inl i) (fun _ _ => kD_inj) ky_int a r h2
          have hl2 := Nat.le_trans (dput_length acc a b) (Nat.add_le_add_right ha 1)
          have e3 : (putK ws' (Sum.inl a) v).length = (dput acc a b).length := by rw [Paired.length h3, List.length_map]
          have k2 := Ok.write (L2 := []) (d' := odK false dI dv (dput acc a b)) (o := .dK (putK ws' (.inl a) v)) k' (by show (putK ws' (Sum.inl a) v).length ≤ sizeLine; omega) ⟨_, upd_same, h3⟩
          exact St.back hS ⟨F, k2, sl, t⟩
  · have e : i = xs.length := by omega
    have e2 : xs.drop i = [] := by rw [e]; exact List.drop_length
    rw [e2] at hr
    have e3 : acc = zs := by simpa [dcO] using hr
    subst e3
    refine .inl ⟨w3 e, hQ D H2 ?_⟩
    have s5 : St K B F0 ρ (L ++ [(D, odK false dI dv acc)]) σ H2 vs ds := s2.stack fun F r => (pr_split hl r).2
    exact s5.push fun F => rfl

theorem e_dc {ν : Type} {kx vx : Expr} {scope : Scope} (own : List (Str × Nat)) {PL : Ow → Prop} {en : α → Sl} {dv : ν → PyData} {o : Option (List α)} {ρb : α → Env} {kf : α → Option Int} {vf : α → Option ν}
    (hi : IX X tg iter ρ L PL true en o) (hPL : ∀ M, PL (L ++ M)) (hg : Bk X scope fun X => ∀ x, GY X tg (wipeE ρ (own.map (·.2))) (en x) (ρb x) (own.map (·.2)))
    (hk : Bk X scope fun X => ∀ x M, EX X dI kx (ρb x) (L ++ M) (kf x)) (hv : Bk X scope fun X => ∀ x M, EX X dv vx (ρb x) (L ++ M) (vf x)) (hN : X.N.Nodup) (ok : BlkOk X.N X.env.scope scope own) (hc : X.calm = true := by rfl) (hs : ∀ x, foldedSetIterable iter X.env x = pure x := by intro _; rfl) :
    EO X (odK false dI dv) (.DictComp kx vx [⟨tg, iter, [], 0⟩] scope pos) ρ L (o.bind fun xs => dcO kf vf xs []) := by
  obtain ⟨wi, pi, hi⟩ := hi
  obtain ⟨g, pg, hg⟩ := GY.bk hg
  obtain ⟨tk, pk, hk⟩ := EX.bk1 hk
  obtain ⟨tv, pv, hv⟩ := EX.bk1 hv
  refine ⟨_, pe_dc hc hN pi ok pg (fun s H C cl fp => pts_nil) pk pv hs, fun zs hm B F0 σ H vs ds Q s q => ?_⟩
  obtain ⟨xs, hx, hm⟩ := Option.bind_eq_some_iff.mp hm
  exact dc_read (fun R r => hi xs hx B F0 σ H vs ds R s fun J H1 pv pd e z s1 w => r J H1 pv pd e (z rfl) s1 w) hPL (fun x M σ H v vs ds Q => hg x (L ++ M) B F0 σ H v vs ds Q) (fun x a e M σ H vs ds Q => hk x a e M B F0 σ H vs ds Q) (fun x a e M σ H vs ds Q => hv x a e M B F0 σ H vs ds Q) hm s.slots q
end
end Mir
namespace Mir
open PySem L2

/-! ### sorted of a dict -/
section
open PySem.Spec PyProof.Rows
variable {X : Cx}
def rSortKeys (K : PySem.W.Frag) : List V → Hp → VK → Prop := fun vs H Q => ∃ (a : Addr) (kvs : List (Key × V)) (bs : List (V × PyData)), vs = [.ref a] ∧ H a = some (.dK kvs) ∧ bs.map (·.1) = kvs.map (fun kv => kV kv.1) ∧ (∀ b ∈ bs, Dp K H b.1 b.2) ∧ PySem.W.AllAlike (bs.map (·.2)) ∧ PySem.W.Sortable (bs.map (·.2)) ∧ (∀ b ∈ bs, b.2.depth ≤ 64) ∧
  ∀ p, H p = none → Q (.ref p) (upd H p (.lst ((bs.mergeSort (PySem.W.dataLe false (·.2))).map (·.1))))
theorem cr_sortKeys (hcalm : X.calm = true) (hu : X.A.units + 70 < cLine) : CallR X (.builtin "sorted") (rSortKeys X.K) := by
  intro pins s σ H xs us Q I r h
  obtain ⟨a, kvs, bs, rfl, hk0, hbs, hd, hal, hk, hdep, q⟩ := h
  obtain ⟨u, eu, rx⟩ := vals1 r
  subst eu
  obtain rfl : u = Value.ref a := rx
  obtain ⟨z, lo, vs, rk, dd⟩ := (show ObjOk X.prog X.w H s.heap a (.dK kvs) from I.hok a _ hk0)
  obtain ⟨ep, hat⟩ := dd.dictAt
  have hl : kvs.length = vs.length := Paired.length rk
  have hbl : bs.length = kvs.length := by
    have := congrArg List.length hbs
    rw [List.length_map, List.length_map] at this
    exact this
  refine Calls.call_function_entry PyProof.Rows.kind_sorted PyProof.Rows.plain_sorted PyProof.Rows.entry_sorted (PyProof.Rows.args_sorted1 _) ?_
  unfold Builtin.«sorted»
  refine wpAny_bind (m := checkCount "sorted" 1 1 _) (wpAny_pure ?_)
  refine wpAny_bind (PySem.W.kdu_collect (A := X.A.in1) (PySem.W.kdl_dict (knd := mixKind X.prog X.w) (kvs := vs) (ep := ep) lo) (I.ok.hd hcalm) hat (by rw [← hl]; exact z) fun h' tk acc hkeep hacc => ?_)
  have rv : Vals (bs.map (·.1)) acc.toList := by
    have el : acc.toList.length = acc.size := by simp
    rw [hbs]
    refine vals_of_at (by rw [List.length_map, el, hacc.1, hl]) fun j x w h1 h2 => ?_
    obtain ⟨k, y, hky, hi⟩ := hacc.2 j w (by rw [← Array.getElem?_toList]; exact h2)
    have e1 : (kvs.map (·.1))[j]? = some k := by
      rw [KV.keys rk, List.getElem?_map, hky] <;> rfl
    have e2 : (kvs.map fun kv => kV kv.1)[j]? = some (kV k) := by
      have e3 : (kvs.map fun kv => kV kv.1) = (kvs.map (·.1)).map kV := by rw [List.map_map] <;> rfl
      rw [e3, List.getElem?_map, e1] <;> rfl
    rw [e2] at h1
    cases h1
    exact keyIs_rel hi
  have hal2 : acc.toList.length = bs.length := by rw [← rv.length, List.length_map]
  have I1 : Inv X pins σ H { s with heap := h', toks := tk } := I.kept hkeep
  have er : PySem.W.EachIs (fun u (b : V × PyData) => ∃ as, Reads h' u b.2 as) acc.toList bs := each_reads I1 hd rv
  refine wpAny_bind (wpAny_newList ?_ (by rw [hal2, hbl]; exact z))
  have hoL : (h'.push (seqObj "list" acc.toList.toArray 0)).get? h'.objs.size = some (seqObj "list" acc.toList.toArray 0) := Heap.get?_push_size _ rfl
  show wpAny _ _ _ _ _ { s with heap := h'.push (seqObj "list" acc.toList.toArray 0), toks := tk }
  have keep : ∀ b o, h'.get? b = some o → (PySem.W.sortingHeap (h'.push (seqObj "list" acc.toList.toArray 0)) h'.objs.size acc.toList).get? b = some o := fun b o e => by
    have hb : b < h'.objs.size := Heap.lt_size e
    exact PySem.W.sortingHeap_old (Nat.ne_of_lt hb) (Heap.get?_push_of_some _ e)
  have er' : PySem.W.EachIs (fun u (b : V × PyData) => ∃ as, Reads (PySem.W.sortingHeap (h'.push (seqObj "list" acc.toList.toArray 0)) h'.objs.size acc.toList) u b.2 as) acc.toList bs := er.mono fun _ _ ⟨as, r⟩ => ⟨as, PyProof.Rows.Reads.keeps keep r⟩
  refine wpAny_bind (wpAny_holding (wpAny_call_entry PyProof.Rows.slot_list_sort ⟨_, hoL, rfl⟩ PyProof.Rows.entry_list_sort
    (PySem.W.list_sort_vals (κ := PySem.W.dataKind (PySem.W.sortingHeap (h'.push (seqObj "list" acc.toList.toArray 0)) h'.objs.size acc.toList) (bs.map (·.2))) (s := { s with heap := h'.push (seqObj "list" acc.toList.toArray 0), toks := tk }) hoL
      (PySem.W.SortsAt.data (s := { s with heap := PySem.W.sortingHeap (h'.push (seqObj "list" acc.toList.toArray 0)) h'.objs.size acc.toList, toks := tk }) (PySem.W.each_map (R := fun v d => ∃ as, Reads (PySem.W.sortingHeap (h'.push (seqObj "list" acc.toList.toArray 0)) h'.objs.size acc.toList) v d as) (fun b : V × PyData => b.2) er') hal hk ?_) (by rw [hal2, hbl]; exact z) ⟨.none, rfl, ?_⟩) (PyProof.Rows.args_list_sort _)))
  · intro x hx
    obtain ⟨b, hb, rfl⟩ := List.mem_map.mp hx
    have := hdep b hb
    show X.A.units + 1 + 1 + b.2.depth < cLine
    omega
  generalize eo : PySem.W.sortVals (PySem.W.dataKind (PySem.W.sortingHeap (h'.push (seqObj "list" acc.toList.toArray 0)) h'.objs.size acc.toList) (bs.map (·.2))) false acc.toList acc.toList = out
  have e2 : PySem.W.EachIs (fun u (b : V × PyData) => RelV b.1 u) out (bs.mergeSort (PySem.W.dataLe false (·.2))) := by
    rw [← eo]
    exact PySem.W.sortVals_data false (each_of rv) er' hal
  have hv := of_each e2
  obtain ⟨e', he'⟩ := PyProof.Rows.sortedHeap_at (vs := acc.toList) (out := out.toArray) hoL
  have hlen : ((bs.mergeSort (PySem.W.dataLe false (·.2))).map (·.1)).length ≤ sizeLine := by
    rw [List.length_map, List.length_mergeSort, hbl]; exact z
  refine wpAny_pure ⟨_, rfl, .ref h'.objs.size, upd H h'.objs.size (.lst ((bs.mergeSort (PySem.W.dataLe false (·.2))).map (·.1))), I1.laid (t' := tk) (fun b u e => ?_) (Nat.le_refl _)
    (show ObjOk X.prog X.w _ _ _ (.lst ((bs.mergeSort (PySem.W.dataLe false (·.2))).map (·.1))) from ⟨hlen, out, e', hv, he'⟩), rfl, q _ (I1.hok.fresh (Nat.le_refl _))⟩
  have hb : b < h'.objs.size := Heap.lt_size e
  rw [PyProof.Rows.sortedHeap_old (Nat.ne_of_lt hb) (by rw [size_push']; exact Nat.lt_succ_of_lt hb)]
  exact Heap.get?_push_of_some _ e
end
section
variable {X : Cx} {ν : Type} {o e : Expr} {ρ : Env} {L : Ow} {p pos : Pos} {n : Nat} {dv : ν → PyData}
theorem dk_keys {K : PySem.W.Frag} {F : Hp} : ∀ {kvs : List (Int × ν)} {ws : List (Key × V)}, DKR K F ws (kvs.map (encK dI dv)) → ws.map (fun kv => kV kv.1) = (kvs.map (·.1)).map V.int
  | [], _, h => by cases h; rfl
  | kv :: kvs, _, h => by
    cases h with
    | @cons x _ _ _ r t =>
      have h4 : dI kv.1 = kD x.1 := r.1
      have e3 : x.1 = .inl kv.1 := by
        cases hx : x.1 with
        | inl i => rw [hx] at h4; cases h4; rfl
        | inr i => rw [hx] at h4; cases h4
      rw [List.map_cons, List.map_cons, List.map_cons, dk_keys t, e3]
      rfl
/-- the keys of a dict, sorted -/
theorem n_sortedD {a : Addr} {kvs : List (Int × ν)} (j : Nat) (hc : X.calm = true) (hr : Room n X.A) (hL : L[j]? = some (a, odK false dI dv kvs)) (ho : ES X o ρ L (some (.ptr a))) (hm : X.mg "sorted" = none) (hs : starEach [o] X.env = (false, eval o X.env) :: starEach [] X.env := by rfl)
    (hh : X.mg "sorted" = none → ∀ {ta}, PE X o ta → X.A.units + 70 < cLine → PE X (.Call (.Name "sorted" p) [o] [] pos) (tCB (rSortKeys X.K) (tCons ta tNil)) := by intro hm _ h hu; exact pe_callB (cr_sortKeys rfl hu) (by rfl) hm (by decide +kernel) (pa_cons h pa_nil)) :
    EN X dI (.Call (.Name "sorted" p) [o] [] pos) ρ L (some ((kvs.map (·.1)).mergeSort leI)) := by
  obtain ⟨t, p, h⟩ := ho
  refine ⟨_, hh hm p (by have := hr.un; omega), fun z hz B F0 σ H vs ds Q s k => ?_⟩
  cases hz
  refine h _ rfl B F0 σ H vs ds _ s fun v H1 s1 => ?_
  have e := s1.isPtr
  subst e
  obtain ⟨F, ok, sl, sv⟩ := id s1.pop
  obtain ⟨ws, h1, h2⟩ := ok.at_ hL
  have ek := dk_keys h2
  refine ⟨a, ws, (kvs.map (·.1)).map fun i => (V.int i, PyData.int i), rfl, h1, ?_, ?_, ?_, ?_, ?_, fun q hq => ?_⟩
  · rw [ek, List.map_map]; rfl
  · intro b hb
    obtain ⟨i, _, rfl⟩ := List.mem_map.mp hb
    exact .int i
  · intro x hx y hy
    simp only [List.map_map, List.mem_map] at hx hy
    obtain ⟨_, _, rfl⟩ := hx
    obtain ⟨_, _, rfl⟩ := hy
    exact srt_int.ali _ _
  · refine .inr fun x hx => ?_
    simp only [List.map_map, List.mem_map] at hx
    obtain ⟨i, _, rfl⟩ := hx
    rcases srt_int.srt with h | h | h
    · obtain ⟨x, r, e⟩ := h 0
      cases e
    · exact h i.1
    · obtain ⟨x, e⟩ := h 0
      cases e
  · intro b hb
    obtain ⟨i, _, rfl⟩ := List.mem_map.mp hb
    exact srt_int.dep i
  · have e3 : (((kvs.map (·.1)).map fun i => (V.int i, PyData.int i)).mergeSort (PySem.W.dataLe false (·.2))).map (·.1) = ((kvs.map (·.1)).mergeSort leI).map V.int := by
      have e4 : ((kvs.map (·.1)).map fun i => (V.int i, PyData.int i)).mergeSort (PySem.W.dataLe false (·.2)) = ((kvs.map (·.1)).mergeSort leI).map fun i => (V.int i, PyData.int i) := by
        rw [← srt_int.le]
        exact (PySem.W.sort_maps (r := PySem.W.dataLe false dI) (s := PySem.W.dataLe false (fun b : V × PyData => b.2)) (fun i => (V.int i, PyData.int i)) (fun _ _ _ _ => rfl)).symm
      rw [e4, List.map_map]
      rfl
    rw [e3]
    refine k q _ (St.newLst (xs := (((kvs.map (·.1)).mergeSort leI).map dI).map .dat) (us := ((kvs.map (·.1)).mergeSort leI).map V.int) (ints_st _ s1.pop) (by simp) hq ?_)
    have hz := ok.sz _ _ h1
    have hl : ws.length = kvs.length := by rw [Paired.length h2, List.length_map]
    rw [List.length_map, List.length_mergeSort, List.length_map, ← hl]
    exact hz
end

/-! ### sorted(set(t)) -/
def insS (x : Int) : List Int → List Int
  | [] => [x]
  | y :: ys => if x < y then x :: y :: ys else if x = y then y :: ys else y :: insS x ys
def sset (xs : List Int) : List Int := xs.foldl (fun a x => insS x a) []
theorem mem_insS {x k : Int} : ∀ {ys : List Int}, k ∈ insS x ys ↔ k = x ∨ k ∈ ys
  | [] => by simp [insS]
  | y :: ys => by
    unfold insS
    split
    · simp
    · split
      · rename_i h
        subst h
        simp
      · rw [List.mem_cons, mem_insS, List.mem_cons]
        exact ⟨fun h => by rcases h with h | h | h; exact .inr (.inl h); exact .inl h; exact .inr (.inr h), fun h => by rcases h with h | h | h; exact .inr (.inl h); exact .inl h; exact .inr (.inr h)⟩
theorem insS_lt {x : Int} : ∀ {ys : List Int}, ys.Pairwise (· < ·) → (insS x ys).Pairwise (· < ·)
  | [], _ => by simp [insS]
  | y :: ys, h => by
    obtain ⟨h1, h2⟩ := List.pairwise_cons.mp h
    unfold insS
    split
    · rename_i hx
      exact List.pairwise_cons.mpr ⟨fun z hz => by rcases List.mem_cons.mp hz with rfl | hz; exact hx; exact Int.lt_trans hx (h1 z hz), h⟩
    · split
      · exact h
      · rename_i hx hn
        refine List.pairwise_cons.mpr ⟨fun z hz => ?_, insS_lt h2⟩
        rcases mem_insS.mp hz with rfl | hz
        · omega
        · exact h1 z hz
theorem mem_fold {k : Int} : ∀ {xs a : List Int}, k ∈ xs.foldl (fun a x => insS x a) a ↔ k ∈ xs ∨ k ∈ a
  | [], a => by simp
  | x :: xs, a => by
    rw [List.foldl_cons, mem_fold, mem_insS, List.mem_cons]
    exact ⟨fun h => by rcases h with h | h | h; exact .inl (.inr h); exact .inl (.inl h); exact .inr h, fun h => by rcases h with (h | h) | h; exact .inr (.inl h); exact .inl h; exact .inr (.inr h)⟩
theorem fold_lt : ∀ {xs a : List Int}, a.Pairwise (· < ·) → (xs.foldl (fun a x => insS x a) a).Pairwise (· < ·)
  | [], _, h => h
  | x :: xs, a, h => by rw [List.foldl_cons]; exact fold_lt (insS_lt h)
theorem mem_sset {k : Int} {xs : List Int} : k ∈ sset xs ↔ k ∈ xs := by unfold sset; rw [mem_fold]; simp
theorem sset_lt (xs : List Int) : (sset xs).Pairwise (· < ·) := fold_lt List.Pairwise.nil
theorem lt_unique : ∀ {xs ys : List Int}, xs.Pairwise (· < ·) → ys.Pairwise (· < ·) → (∀ k, k ∈ xs ↔ k ∈ ys) → xs = ys
  | [], [], _, _, _ => rfl
  | [], y :: ys, _, _, h => absurd ((h y).mpr List.mem_cons_self) (by simp)
  | x :: xs, [], _, _, h => absurd ((h x).mp List.mem_cons_self) (by simp)
  | x :: xs, y :: ys, hx, hy, h => by
    obtain ⟨a1, a2⟩ := List.pairwise_cons.mp hx
    obtain ⟨b1, b2⟩ := List.pairwise_cons.mp hy
    have e : x = y := by
      rcases List.mem_cons.mp ((h x).mp List.mem_cons_self) with e | m
      · exact e
      · rcases List.mem_cons.mp ((h y).mpr List.mem_cons_self) with e | m2
        · exact e.symm
        · have := b1 x m
          have := a1 y m2
          omega
    subst e
    rw [lt_unique a2 b2 fun k => ?_]
    constructor
    · intro m
      rcases List.mem_cons.mp ((h k).mp (List.mem_cons_of_mem _ m)) with e | q
      · have := a1 k m; omega
      · exact q
    · intro m
      rcases List.mem_cons.mp ((h k).mpr (List.mem_cons_of_mem _ m)) with e | q
      · have := b1 k m; omega
      · exact q
noncomputable def ssetO (xs : List Int) : Option (List Int) := @ite _ (xs.length < 64) (Classical.propDecidable _) (some (sset xs)) none
section
open PySem.Spec PyProof.Rows
variable {X : Cx} {a : Expr} {ta : TE} {p p2 q pos : Pos}
def tSortSet (K : PySem.W.Frag) (te : TE) : TE := fun σ H Q => te σ H fun v H1 => ∃ p ns, v = .ref p ∧ SqT K H1 p (ns.map V.int) ∧ ns.length < 64 ∧ ∀ q, H1 q = none → Q (.ref q) (upd H1 q (.lst ((sset ns).map V.int)))
theorem pe_sortSet (hg : Gl X "sorted") (hm : X.mg "sorted" = none) (hg2 : Gl X "set") (hm2 : X.mg "set" = none) (ha : PE X a ta) (hc : X.calm = true := by rfl)
    (na : starEach [a] X.env = (false, eval a X.env) :: starEach [] X.env := by rfl) : PE X (.Call (.Name "sorted" p) [.Call (.Name "set" p2) [a] [] q] [] pos) (tSortSet X.K ta) := by
  refine ⟨fun pins s σ H Q I h => ?_⟩
  refine Call_ (ld_blt I hg hm (show bootBuiltins "sorted" = some (.builtin "sorted") by decide +kernel) ?_)
  refine PyProof.Rows.callWith_builtin1 (PyProof.Rows.args_cons ?_ rfl) rfl rfl
  refine Call_ (ld_blt I hg2 hm2 PyProof.Rows.boot_set ?_)
  refine PyProof.Rows.callWith_type1 (PyProof.Rows.args_cons (thn (ha.run pins s σ H _ I h) fun v s1 ⟨x, H1, I1, r1, q1⟩ => PyProof.Rows.args_nil ?_) na) na rfl
  obtain ⟨l, ns, rfl, hq, hl, q1⟩ := q1
  cases r1
  have fin : ∀ (h' : Heap) (tk n : Nat) (S : Int → Bool), SetR X.w h' s1.heap.objs.size S n → n < 64 → (∀ k, S k = true ↔ k ∈ ns) → (∀ b o, s1.heap.get? b = some o → h'.get? b = some o) →
      wpAny (model X.prog X.w) X.A (call (.builtin "sorted") [.ref s1.heap.objs.size]) (EP X pins σ Q) X.xe { s1 with heap := h', toks := tk } := fun h' tk n S hS hn hk hkeep => by
    refine sorted_set (s := { s1 with heap := h', toks := tk }) hS (I1.ok.hd hc) hn fun s' p out c ms k1 g1 o1 hz hp hi hlt hmem hlen => ?_
    have e : ms = sset ns := lt_unique hlt (sset_lt ns) fun k => by rw [hmem, hk, mem_sset]
    subst e
    have kall : ∀ b u, s1.heap.get? b = some u → s'.heap.get? b = some u := fun b u e => k1 b u (hkeep b u e)
    have hsz : s1.heap.objs.size ≤ p := by
      obtain ⟨o, _, _, _, ho, _⟩ := hS
      exact Nat.le_trans (Nat.le_of_lt (Heap.lt_size ho)) hz
    have hlen2 : ((sset ns).map V.int).length ≤ sizeLine := by
      rw [List.length_map, hlen, sizeLine_eq]
      omega
    refine ⟨.ref p, upd H1 p (.lst ((sset ns).map V.int)), ?_, rfl, q1 p (I1.hok.fresh hsz)⟩
    have J : Inv X pins σ (upd H1 p (.lst ((sset ns).map V.int))) { s1 with heap := s'.heap, gens := s'.gens, drawn := s'.drawn, toks := s'.toks } :=
      I1.call (ch := []) (Un.laid kall hsz (I1.hok.fresh hsz)) (I1.hok.laid kall hsz ⟨hlen2, out.toList, c, vals_of_ints hi, by rw [Array.toArray_toList]; exact hp⟩) (by rw [g1]; exact I1.bare) (fun _ z => nomatch z)
    have e : s' = { s1 with heap := s'.heap, gens := s'.gens, drawn := s'.drawn, toks := s'.toks } := by
      cases s'
      cases s1
      cases o1
      rfl
    rw [e]
    exact J
  have hi := I1.tuple hq
  obtain ⟨its, rv, pt, hz⟩ := hi
  have hii : IntsAre its.toArray.toList ns := ints_of_vals rv
  refine call_set_tupI ns (I1.ok.hd hc) (show s1.heap.IsTuple l its.toArray from pt) hii (by unfold scanBound; omega) fun h' tk c R1 hcn k => ?_
  refine PyProof.Rows.args_nil ?_
  exact fin h' tk c _ R1 (by omega) (fun k => decide_eq_true_iff) k
end

section
variable {X : Cx} {α β γ δ S W ν : Type} {e a k v o : Expr} {ρ : Env} {L : Ow} {p p2 pos q px apos cpos : Pos} {d : α → PyData} {d' : β → PyData} {dv : ν → PyData} {oc : δ → Oc}
theorem n_sortedSet {o : Option (List Int)} (h : EX X (dT dI) e ρ L o) (hm : X.mg "sorted" = none) (hm2 : X.mg "set" = none) (na : starEach [e] X.env = (false, eval e X.env) :: starEach [] X.env := by rfl)
    (hh : X.mg "sorted" = none → X.mg "set" = none → ∀ {ta}, PE X e ta → PE X (.Call (.Name "sorted" p) [.Call (.Name "set" p2) [e] [] q] [] pos) (tSortSet X.K ta) := by intro hm hm2 _ h; exact pe_sortSet (by rfl) hm (by rfl) hm2 h) :
    EN X dI (.Call (.Name "sorted" p) [.Call (.Name "set" p2) [e] [] q] [] pos) ρ L (o.bind ssetO) := by
  obtain ⟨t, p, h⟩ := h
  refine ⟨_, hh hm hm2 p, fun z hz B F0 σ H vs ds Q s k => ?_⟩
  obtain ⟨xs, hx, hz⟩ := Option.bind_eq_some_iff.mp hz
  unfold ssetO at hz
  split at hz
  rotate_left
  · cases hz
  rename_i hl
  have e : sset xs = z := by simpa using hz
  subst e
  refine h xs hx B F0 σ H vs ds _ s fun v H1 s1 => ?_
  obtain ⟨a, us, rfl, h1, h2, _, h3⟩ := s1.tup1
  rw [List.length_map] at h2
  have e := h3.ints h2
  subst e
  refine ⟨a, xs, rfl, SqT.of h1, hl, fun q hq => k q _ (St.newLst (us := (sset xs).map V.int) (ints_st _ s1.pop) (by simp) hq ?_)⟩
  have hlt : ∀ (xs a : List Int), (xs.foldl (fun a x => insS x a) a).length ≤ xs.length + a.length := by
    intro xs
    induction xs with
    | nil => intro a; simp
    | cons x xs ih =>
      intro a
      rw [List.foldl_cons]
      have h1 := ih (insS x a)
      have h2 : (insS x a).length ≤ a.length + 1 := by
        clear h1
        induction a with
        | nil => simp [insS]
        | cons y ys ih => unfold insS; split; simp; split; simp; simp; omega
      rw [List.length_cons]
      omega
  have := hlt xs []
  rw [List.length_map]
  have h5 : (sset xs).length ≤ xs.length := by simpa [sset] using this
  exact Nat.le_trans (by omega) (sz_of (by decide : 1000 ≤ 1000))
/-- {k: v} -/
theorem e_disp1K {ok : Option Int} {ov : Option ν} (hk : ∀ M, EX X dI k ρ (L ++ M) ok) (hv : ∀ M, EX X dv v ρ (L ++ M) ov) : EO X (odK false dI dv) (.Dict [some k] [v] pos) ρ L (ok.bind fun i => ov.bind fun x => some [(i, x)]) := by
  obtain ⟨tk, pk, hk⟩ := EX.all (S := Ow) (ρf := fun _ => ρ) (Lf := fun M => L ++ M) (k := fun _ => ok) hk
  obtain ⟨tv, pv, hv⟩ := EX.all (S := Ow) (ρf := fun _ => ρ) (Lf := fun M => L ++ M) (k := fun _ => ov) hv
  refine ⟨_, pe_disp (pps_cons pk pv pps_nil) rfl rfl (by simp) (by simp), fun z hz B F0 σ H vs ds Q s q => ?_⟩
  obtain ⟨i, hi, hz⟩ := Option.bind_eq_some_iff.mp hz
  obtain ⟨x, hx, hz⟩ := Option.bind_eq_some_iff.mp hz
  cases hz
  intro p hp
  have s1 : St X.K B F0 ρ (L ++ [(p, odK false dI dv [])]) σ (upd H p (.dK [])) vs ds := by
    obtain ⟨F, ok, sl, sv⟩ := s
    exact ⟨F, ok.alloc hp (Nat.zero_le _) ⟨[], upd_same, .nil⟩, sl, sv⟩
  refine hk _ i hi B F0 σ _ vs ds _ s1 fun u H1 s2 => hv _ x hx B F0 σ H1 _ _ _ s2 fun w H2 s3 => ?_
  have eu : u = .int i := s3.pop.isInt
  subst eu
  obtain ⟨F, ok, sl, sv⟩ := s3
  cases sv with
  | cons r t =>
    cases t with
    | cons r2 t =>
      have m7 : (L ++ [(p, odK false dI dv [])])[L.length]? = some (p, odK false dI dv []) := by simp
      obtain ⟨ws', h1, h2⟩ := ok.at_ m7
      have e0 : ws' = [] := by
        have h3 := Paired.length h2
        exact List.length_eq_zero_iff.mp h3
      subst e0
      refine ⟨h1, [(.inl i, w)], rfl, by simp, q p _ ?_⟩
      have h3 := dr_put (c := kD) (f := fun i : Int => .inl i) (K := X.K) (dv := dv) (fun _ _ => kD_inj) ky_int i r h2
      have k2 := Ok.write (L2 := []) (d' := odK false dI dv [(i, x)]) (o := .dK (mergeK [] [(.inl i, w)])) ok (sz_of (by decide : 1 ≤ 1000)) ⟨_, upd_same, h3⟩
      exact ⟨F, k2, sl, .cons rfl t⟩
theorem b_retMX {Lf : W → Ow} {w : W} {Lr : Ow} {o : Option (α × W)} (g : α × W → δ) (h : EM X d e ρ (fun w => Lf w ++ Lr) w o) (hoc : ∀ a, oc (g a) = .rt (.dat (d a.1)) (Lf a.2)) : BX X [.Return (some e) pos] ρ (Lf w ++ Lr) (o.map g) oc := by
  obtain ⟨t, p, h⟩ := h
  refine ⟨_, pss_one (ps_ret p), fun b hb B F0 σ H vs ds D s q => ?_⟩
  obtain ⟨a, ha, rfl⟩ := Option.map_eq_some_iff.mp hb
  rw [hoc] at q
  exact h a.1 a.2 ha B F0 σ H vs ds _ s fun v H' s' => q v H' s'.part.noslots
theorem s_appendM {Lf : W → Ow} {w0 : W} {xs : List α} {me : Option (α × W)} (j : Nat) {ad : Addr} (hL : ∀ w, (Lf w)[j]? = some (ad, odL d xs)) (ho : ∀ w, ES X o ρ (Lf w) (some (.ptr ad))) (h : EM X d e ρ Lf w0 me) (hs : swapsWith (.Call (.Attribute o "append" apos) [e] [] cpos) none pos.line X.env = pure false := by rfl)
    (hh : ∀ {to te}, PE X o to → PE X e te → PE X (.Call (.Attribute o "append" apos) [e] [] cpos) (tBM X.K "list" rAppend to (tCons te tNil)) := by intro _ _ h1 h2; exact pe_bm PySem.F.plainAttrs_list PySem.F.slot_list_append PySem.F.type_list_append mt_append h1 (pa_cons h2 pa_nil)) :
    SX X (.Expr (.Call (.Attribute o "append" apos) [e] [] cpos) pos) ρ (Lf w0) (me.bind fun x => (appO xs x.1).map fun z => (z, x.2)) (ocn fun ys => (ρ, (Lf ys.2).set j (ad, odL d ys.1))) := by
  obtain ⟨to, po, ho⟩ : ∃ to, PE X o to ∧ ∀ B F0 σ H vs ds Q, St X.K B F0 ρ (Lf w0) σ H vs ds → (∀ v H', St X.K B F0 ρ (Lf w0) σ H' (v :: vs) (.ptr ad :: ds) → Q v H') → to σ H Q := by
    obtain ⟨to, po, ho⟩ := ho w0
    exact ⟨to, po, fun B F0 σ H vs ds Q s k => ho _ rfl B F0 σ H vs ds Q s k⟩
  obtain ⟨te, pe, h⟩ := h
  refine ⟨_, ps_expr (hh po pe) hs, fun ys hy B F0 σ H vs ds D s q => ?_⟩
  obtain ⟨⟨a, w1⟩, ha, hy⟩ := Option.bind_eq_some_iff.mp hy
  obtain ⟨zs, hz, rfl⟩ := Option.map_eq_some_iff.mp hy
  unfold appO at hz
  split at hz
  · rename_i hl
    cases hz
    refine ho B F0 σ H vs ds _ s fun v H1 s1 => ?_
    obtain ⟨us1, g1, _, _, _⟩ := s1.own1 (mem_at (hL w0))
    have ev := s1.isPtr
    subst ev
    refine ⟨.inl ⟨rfl, _, SqL.of g1⟩, h a w1 ha B F0 σ H1 _ _ _ s1 fun u H2 s2 => ?_⟩
    obtain ⟨F, ok, sl, sv⟩ := s2
    obtain ⟨us, g2, g3⟩ := ok.at_ (hL w1)
    have hlen : us.length = xs.length := by rw [Paired.length g3, List.length_map, List.length_map]
    cases sv with
    | cons r t =>
      cases t with
      | cons r2 t =>
        refine ⟨ad, us, u, rfl, rfl, g2, by omega, q _ _ ⟨F, ok.put (hL w1) (d' := odL d (xs ++ [a])) (o := .lst (us ++ [u])) (by show (us ++ [u]).length ≤ sizeLine; rw [List.length_append]; show us.length + 1 ≤ sizeLine; omega) ⟨_, upd_same, ?_⟩, sl, t⟩⟩
        rw [List.map_append, List.map_append]
        exact pr_app g3 (.cons r .nil)
  · cases hz
end
end Mir
namespace Mir
open PySem L2

/-! ### the state of a law's draws -/
abbrev DS := List Int × Int
abbrev LD (s c : Addr) (w : DS) : Ow := [(s, .lst [.ptr c, .dat (dI w.2)]), (c, odL dI w.1)]
def seedM (ns : List Int) : Int := ns.foldl (fun a c => (a * 31 + c) % 1000003) 7
def stateM (ns : List Int) : DS := (ns.map fun c => if c < 0 then -c else c, seedM ns + 1)
def lcg (w : Int) : Int := (w * 48271 + 12345) % 2147483647
noncomputable def drawM (many : Int) (w : DS) : Option (Int × DS) :=
  match w.1.dropWhile (fun c => decide (c = 0)) with
  | [] => (fmodO (lcg w.2 / 64) many).map fun r => (r, ([], lcg w.2))
  | v :: r => (fdivO v many).bind fun q => (fmodO v many).map fun z => (z, (q :: r, w.2))
section
variable {X : Cx} {α β γ δ S W : Type} {e a b c : Expr} {ρ : Env} {L : Ow} {p pos px : Pos} {d : α → PyData} {rest : List Stmt} {oc : δ → Oc}
theorem i_scrL {tg : Expr} {ns : List Int} (h : ES X e ρ L (some (.scr ns))) : IX X tg e ρ L anyL true (fun x => .dat (dI x)) (szO ns.length ns) := by
  obtain ⟨t, p, h⟩ := i_scr (tg := tg) h
  refine ⟨t, p, fun xs hx B F0 σ H vs ds R s k => ?_⟩
  unfold szO at hx
  split at hx
  · rename_i hl
    cases hx
    exact h _ rfl B F0 σ H vs ds R s fun J H1 pv pd a b c d => k J H1 pv pd a (fun _ => hl) c d
  · cases hx
theorem Ok.gain {K : PySem.W.Frag} {B F0 F F' H H' : Hp} {L' : Ow} (k : Ok K B F0 F H []) (k' : Ok K H F F' H' L') : Ok K B F0 F' H' L' := by
  refine ⟨k.up.trans k'.up, k'.le, fun a o e => k'.amb a o (k.amb a o e), fun a o e => ?_, k'.sz, fun q m => ?_, k'.nd⟩
  · rcases k'.new a o e with h | h | h
    · exact k.new a o h
    · exact .inr (.inl (k.amb.free h))
    · exact .inr (.inr h)
  · obtain ⟨a, b, r⟩ := k'.own q m
    exact ⟨a, k.amb.free b, r⟩
/-- what _law_state promises -/
def spS (K : PySem.W.Frag) (m : List Int → Option DS) : Sp := fun vs H Q _ => ∃ ns w F, m ns = some w ∧ Ok K H F F H [] ∧ Paired (SvR K F) vs [.scr ns] ∧ ∀ s c v F' H', Ok K H F F' H' (LD s c w) → SvR K F' v (.ptr s) → Q v H'
theorem Ok.nilL {K : PySem.W.Frag} {B F0 F H : Hp} {L : Ow} (k : Ok K B F0 F H L) : Ok K B F0 F H [] := ⟨k.up, k.le, k.amb, k.new, k.sz, fun _ m => (by cases m), List.nodup_nil⟩
/-- state = _law_state(script) -/
theorem b_state {m : List Int → Option DS} {ns : List Int} {ps : List Str} {x f : Str} {pos2 : Pos} {k j : Nat} {kk : DS → Option δ} (i : Nat) (hN : X.N.Nodup) (G : KnowsX X f k ps (spS X.K m)) (hr : Room j X.A) (ha : ES X e ρ [] (some (.scr ns))) (hrest : ∀ s c w, BX X rest (ρ.set i (some (.ptr s))) (LD s c w) (kk w) oc) (hj : k ≤ j := by decide) (hst : starEach [e] X.env = (false, eval e X.env) :: starEach [] X.env := by rfl)
    (hs : swapsWith (.Call (.Name f p) [e] [] pos) (some (.Name x px)) pos2.line X.env = pure false := by rfl) (hi : X.N[i]? = some x := by rfl) (hx : Loc X.env.scope x := by first | exact Or.inl rfl | exact Or.inr rfl) (hf : X.fn x = true ∨ X.env.scope.names.lookup x = some .local := by first | exact .inl rfl | exact .inr rfl)
    (hh : ∀ {g fd t}, FnOk X.prog X.w X.K X.mg X.base CX0 k g fd ps (spS X.K m) → X.mg f = some (.ref g) → PySem.W.keepIn X.K (.ref g) = true → Binds X.K fd ps [] → Room k X.A → PA X [e] t →
      PE X (.Call (.Name f p) [e] [] pos) (tCall (spS X.K m) [] E0 t) := by intro f fd t h1 h2 h3 h4 h5 h6; exact pe_call h1 h5 (by rfl) h2 h3 h4 .nil pass0 h6) :
    BX X (.Assign [.Name x px] (.Call (.Name f p) [e] [] pos) pos2 :: rest) ρ [] ((m ns).bind kk) oc := by
  obtain ⟨g, fd, h1, h2, h3, h4⟩ := G
  obtain ⟨t, pa, ha⟩ := ha
  have pa1 : PA X [e] (tCons t tNil) := pa_cons pa pa_nil hst
  obtain ⟨t', p', hrest⟩ := BX.all (S := Addr × Addr × DS) (ρf := fun q => ρ.set i (some (.ptr q.1))) (Lf := fun q => LD q.1 q.2.1 q.2.2) (k := fun q => kk q.2.2) fun q => hrest q.1 q.2.1 q.2.2
  refine ⟨_, pss_cons (ps_set hN hi hx (hh h1 h2 h3 h4 (hr.mono hj) pa1) hs hf) p', fun r hz B F0 σ H vs ds D s gd => ?_⟩
  obtain ⟨w, hw, hz⟩ := Option.bind_eq_some_iff.mp hz
  refine ha _ rfl B F0 σ H vs ds _ s fun v H1 s1 => ?_
  obtain ⟨F, ok, sl, sv⟩ := s1
  cases sv with
  | cons r1 t1 =>
    refine ⟨ns, w, F, hw, ok.enter0, .cons r1 .nil, fun s c v F' H' k' rv => ?_⟩
    have s2 : St X.K B F0 ρ (LD s c w) σ H' (v :: vs) (.ptr s :: ds) := ⟨F', ok.gain k', sls_mono k'.up sl, .cons rv (svs_mono k'.up t1)⟩
    exact hrest (s, c, w) r hz B F0 _ _ vs ds D (s2.store i) gd
/-- return [[..], n] -/
theorem b_retLD {o : Option (List Int)} {o2 : Option Int} (h : EN X dI a ρ L o) (h2 : ∀ p xs, EX X dI b ρ (L ++ [(p, odL dI xs)]) o2) (h1 : starEach [a, b] X.env = (false, eval a X.env) :: starEach [b] X.env := by rfl) (h1' : starEach [b] X.env = (false, eval b X.env) :: starEach [] X.env := by rfl) :
    BX X [.Return (some (.List [a, b] p)) pos] ρ L (o.bind fun xs => o2.bind fun n => some (xs, n)) (fun w : DS => .ro fun s c => (.ptr s, LD s c w)) := by
  obtain ⟨ta, pa, h⟩ := h
  obtain ⟨tb, pb, h2⟩ := EX.all (S := Addr × List Int) (ρf := fun _ => ρ) (Lf := fun q => L ++ [(q.1, odL dI q.2)]) (k := fun _ => o2) fun q => h2 q.1 q.2
  refine ⟨_, pss_one (ps_ret (pe_lst (pa_cons pa (pa_cons pb pa_nil h1') h1))), fun w hw B F0 σ H vs ds D s g => ?_⟩
  obtain ⟨xs, hx, hw⟩ := Option.bind_eq_some_iff.mp hw
  obtain ⟨n, hn, hw⟩ := Option.bind_eq_some_iff.mp hw
  cases hw
  refine h xs hx B F0 σ H vs ds _ s fun q H1 s1 => h2 (q, xs) n hn B F0 σ H1 _ _ _ s1 fun u H2 s2 => ⟨sz_of (by decide : 2 ≤ 1000), fun r hr => ?_⟩
  have eu : u = .int n := s2.isInt
  subst eu
  refine g r q _ _ ?_
  have s3 := St.newLst (xs := [.ptr q, .dat (dI n)]) (us := [.ref q, .int n]) s2.swap rfl hr (sz_of (by decide : 2 ≤ 1000))
  obtain ⟨F, ok, sl, sv⟩ := s3
  cases sv with
  | cons r1 t1 =>
    have hne : q ≠ r := by
      have nd := ok.nd
      rw [List.map_append, List.map_append, List.nodup_append] at nd
      exact nd.2.2 q (by simp) r (by simp)
    have o1 := ok.own (q, odL dI xs) (by simp)
    have o2 := ok.own (r, .lst [.ptr q, .dat (dI n)]) (by simp)
    refine ⟨F, ⟨ok.up, ok.le, ok.amb, ok.new, ok.sz, fun z m => ?_, ?_⟩, .nil, .cons rfl t1⟩
    · rcases List.mem_cons.mp m with e | m
      · rw [e]; exact o2
      · have e := List.mem_singleton.mp m
        rw [e]; exact o1
    · simp [Ne.symm hne]
theorem knows_state {P : Program} {w : World} {K : PySem.W.Frag} {mg : Str → Option Value} {base : Heap} {x qual : Str} {st : Stmt} {f : Addr} {fd : FuncData} {N ps : List Str} {k : Nat} {m : List Int → Option DS} (F : Fun K x qual st f fd) (hm : mg x = some (.ref f)) (hb : Binds K fd ps []) (S : FnScope N ps (defScope st)) (hl : 1 = ps.length)
    (body : ∀ (cdv : Value) (A : Around) (outer : List PySem.Env) (s : Shared) (H : Hp) (E : XK), Room k (A.deeper (PyProof.Rows.envOfC qual (defScope st) s.heap.objs.size f cdv)) → ∀ ns, BX (cxOf CX0 P w K mg base N qual (defScope st) f cdv A outer s H E).nox (defBody st) (startE N [.scr ns]) [] (m ns) (fun w : DS => .ro fun s c => (.ptr s, LD s c w))) :
    Knows P w K mg base x (k + 1) ps (spS K m) := by
  refine ⟨f, fd, F.ok S (fun vs H Q E h => ?_) (fun cdv A outer s H vs Q E hr h => ?_), hm, F.kp, hb⟩
  · obtain ⟨ns, w, F', _, _, hv, _⟩ := h
    rw [Paired.length hv]
    exact hl
  · obtain ⟨ns, w', F', hm, ok, hv, q⟩ := h
    obtain ⟨t, p, hb⟩ := body cdv A outer s H E hr ns
    refine ⟨t, p, hb w' hm H F' _ H [] [] _ ⟨F', ok, start_pr hv, .nil⟩ ?_⟩
    rintro s c v H' ⟨F2, ok2, _, sv⟩
    cases sv with
    | cons r2 t2 => exact q s c v F2 H' ok2 r2
theorem loop_drop : ∀ (cs : List Int) (n : Nat), cs.length < n → loopO (fun cs : List Int => if decide ((cs.length : Int) > 0) then (atO cs 0).bind fun u => some (decide (u = 0)) else some false) (fun cs => (popO cs 0).bind fun q => some q.2) n cs = some (cs.dropWhile fun c => decide (c = 0))
  | [], 0, h => by simp at h
  | [], n + 1, h => rfl
  | c :: cs, 0, h => by simp at h
  | c :: cs, n + 1, h => by
    have e1 : atO (c :: cs) 0 = some c := by
      unfold atO atI ixN
      simp
    have e2 : popO (c :: cs) 0 = some (c, cs) := by
      unfold popO
      simp [seqIndex?]
    unfold loopO
    have e3 : decide ((((c :: cs).length : Nat) : Int) > 0) = true := by simp
    simp only [e3, if_true, e1, Option.bind_some]
    by_cases h0 : c = 0
    · subst h0
      simp only [decide_true, if_true, e2, Option.bind_some, List.dropWhile_cons]
      exact loop_drop cs n (by simpa using h)
    · simp only [h0, decide_false, if_false, Bool.false_eq_true, List.dropWhile_cons]
noncomputable def tupO {α : Type} (xs : List α) : Option (List α) := szO xs.length xs
/-- what _law_draw's text comes to -/
noncomputable def drawT (many : Int) (w : DS) : Option (Int × DS) :=
  (loopO (fun cs : List Int => if decide ((cs.length : Int) > 0) then (atO cs 0).bind fun u => some (decide (u = 0)) else some false) (fun cs => (popO cs 0).bind fun q => some q.2) (w.1.length + 1) w.1).bind fun cs =>
    if decide ((cs.length : Int) > 0) then (atO cs 0).bind fun v => ((fdivO v many).bind fun q => setO cs 0 q).bind fun cs2 => (fmodO v many).map fun z => (z, (cs2, w.2))
    else (fmodO (lcg w.2 / 64) many).map fun z => (z, (cs, lcg w.2))
theorem draw_eq (many : Int) (w : DS) : drawT many w = drawM many w := by
  unfold drawT drawM
  rw [loop_drop _ _ (Nat.lt_succ_self _), Option.bind_some]
  cases w.1.dropWhile fun c => decide (c = 0) with
  | nil => simp
  | cons v r =>
    have e1 : atO (v :: r) 0 = some v := by
      unfold atO atI ixN
      simp
    have e2 : ∀ q, setO (v :: r) 0 q = some (q :: r) := fun q => by
      unfold setO ixN
      simp
    have e3 : decide ((((v :: r).length : Nat) : Int) > 0) = true := by simp
    simp only [e3, if_true, e1, Option.bind_some, e2]
    cases fdivO v many <;> simp
/-- _law_pick -/
noncomputable def pickM {α : Type} (row : List α) (w : DS) : Option (α × DS) := (drawM row.length w).bind fun v => (atO row v.1).map fun z => (z, v.2)
end
end Mir
namespace Mir
open PySem L2
section
variable {X : Cx} {α β γ δ S W ν : Type} {e a b c k v o : Expr} {ρ : Env} {L : Ow} {p p2 pos q px apos cpos : Pos} {d : α → PyData} {d' : β → PyData} {f : γ → PyData} {dv : ν → PyData} {oc : δ → Oc} {rest A A' : List Stmt}
theorem pip_of {op : Operator} {r : R2} (h : OpR X (inplaceOp op) r) : PIp X op r := fun pins s σ H x y v u Q I rx ry q => h pins s σ H x y v u Q I rx ry q
/-- x op= e -/
theorem s_aug {op : Operator} {r : R2} {g : α → β → Option α} {ob : Option β} {x : α} (i : Nat) {y : Str} {pos' : Pos} (hN : X.N.Nodup) (ho : OpR X (inplaceOp op) r) (hg : Op2 X.K r d d' d g) (hρ : ρ[i]? = some (some (.dat (d x)))) (h : EX X d' e ρ L ob) (hi : X.N[i]? = some y := by rfl) (hx : Loc X.env.scope y := by first | exact Or.inl rfl | exact Or.inr rfl) (hf : X.fn y = true ∨ X.env.scope.names.lookup y = some .local := by first | exact .inl rfl | exact .inr rfl) :
    SX X (.AugAssign (.Name y pos') op e pos) ρ L (ob.bind fun z => g x z) (ocn fun z => (ρ.set i (some (.dat (d z))), L)) := by
  obtain ⟨t, p, h⟩ := h
  refine ⟨_, ps_aug hN hi hx p (pip_of ho) hf, fun z hz B F0 σ H vs ds D s q => ?_⟩
  obtain ⟨b, hb, hz⟩ := Option.bind_eq_some_iff.mp hz
  obtain ⟨F, ok, sl, sv⟩ := id s
  obtain ⟨v, h1, r1⟩ := pr_at sl hρ
  have s1 : St X.K B F0 ρ L σ H (v :: vs) (.dat (d x) :: ds) := ⟨F, ok, sl, .cons r1 sv⟩
  exact ⟨v, h1, h b hb B F0 σ H _ _ _ s1 fun u H2 s2 => hg x b z hz B F0 ρ L σ H2 vs ds v u _ s2 fun w H3 s3 => q _ _ (s3.store i)⟩
/-- xs + ys, the second by what turns the world -/
theorem m_cat {Lf : W → Ow} {w : W} {oa : Option (List α)} {mb : Option (List α × W)} (ha : EX X (dL d) a ρ (Lf w) oa) (hb : EM X (dL d) b ρ Lf w mb) :
    EM X (dL d) (.BinOp a .Add b pos) ρ Lf w (oa.bind fun xs => mb.bind fun y => (catO xs y.1).map fun z => (z, y.2)) := by
  obtain ⟨ta, pa, ha⟩ := ha
  obtain ⟨tb, pb, hb⟩ := hb
  refine ⟨_, pe_op op_cat pa pb, fun z w3 hz B F0 σ H vs ds Q s k => ?_⟩
  obtain ⟨x, hx, hz⟩ := Option.bind_eq_some_iff.mp hz
  obtain ⟨⟨y, w2⟩, hy, hz⟩ := Option.bind_eq_some_iff.mp hz
  obtain ⟨z', hz', e⟩ := Option.map_eq_some_iff.mp hz
  injection e with e1 e2
  subst e1 e2
  unfold catO szO at hz'
  split at hz'
  · rename_i hl
    have hl : x.length + y.length ≤ sizeLine := hl
    have e : x ++ y = z' := by simpa using hz'
    subst e
    refine ha x hx B F0 σ H vs ds _ s fun v H1 s1 => hb y w2 hy B F0 σ H1 _ _ _ s1 fun u H2 s2 => ?_
    obtain ⟨F, ok, sl1, sv⟩ := id s2
    cases sv with
    | cons r1 t =>
      cases t with
      | cons r2 t =>
        cases (show Rp F _ (.list (y.map d)) from r1) with
        | @lst p2 us2 _ g1 g2 =>
          cases (show Rp F _ (.list (x.map d)) from r2) with
          | @lst p1 us1 _ g3 g4 =>
            have l1 := g4.length
            have l2 := g2.length
            rw [List.length_map] at l1 l2
            refine ⟨p1, p2, us1, us2, rfl, rfl, ok.le _ _ g3, ok.le _ _ g1, by omega, fun p hp => k _ _ ?_⟩
            have s3 := St.newLst (xs := ((x ++ y).map d).map .dat) (us := us1 ++ us2) (vs := vs) (ds := ds) (K := X.K) (B := B) (F0 := F0) (ρ := ρ) (L := Lf w2) (σ := σ) (H := H2) ⟨F, ok, sl1, by rw [List.map_append, List.map_append]; exact pr_app (pr_app (dats_of g4) (dats_of g2)) t⟩ (by rw [List.length_append, List.length_map, List.length_map, List.length_append]; omega) hp (by rw [List.length_append]; omega)
            have s4 := St.frz (L2 := []) s3
            rw [List.append_nil] at s4
            exact s4
  · cases hz'
end
end Mir
namespace Mir
open PySem L2
/-- the script as a parameter -/
def encR {β : Type} (enc : β → List Sl) (p : List Int × β) : List Sl := .scr p.1 :: enc p.2
/-! ### data whose kind is not known -/
def tyD : PyData → String
  | .none => "NoneType"
  | .bool _ => "bool"
  | .int _ => "int"
  | .str _ => "str"
  | .list _ => "list"
  | .tuple _ => "tuple"
  | .dict _ => "dict"
def isListD : PyData → Bool
  | .list _ => true
  | _ => false
def isTupleD : PyData → Bool
  | .tuple _ => true
  | _ => false
def isStrD : PyData → Bool
  | .str _ => true
  | _ => false
def isBoolD : PyData → Bool
  | .bool _ => true
  | _ => false
def isIntD : PyData → Bool
  | .bool _ => true
  | .int _ => true
  | _ => false
def isNoneD : PyData → Bool
  | .none => true
  | _ => false
def seqD : PyData → Option (List PyData)
  | .list xs => some xs
  | .tuple xs => some xs
  | _ => none
noncomputable def eqvO (a b : PyData) : Option Bool := @ite _ ((SeqAt.shaped a && SeqAt.shaped b) = true) (Classical.propDecidable _) (some (PyData.eqv a b)) none
theorem ty_list : ∀ d, kitB (tyD d) "list" = some (isListD d) := by
  intro d
  cases d <;> simp only [tyD, isListD] <;> decide +kernel
theorem ty_tuple : ∀ d, kitB (tyD d) "tuple" = some (isTupleD d) := by
  intro d
  cases d <;> simp only [tyD, isTupleD] <;> decide +kernel
theorem ty_str : ∀ d, kitB (tyD d) "str" = some (isStrD d) := by
  intro d
  cases d <;> simp only [tyD, isStrD] <;> decide +kernel
theorem ty_bool : ∀ d, kitB (tyD d) "bool" = some (isBoolD d) := by
  intro d
  cases d <;> simp only [tyD, isBoolD] <;> decide +kernel
theorem ty_int : ∀ d, kitB (tyD d) "int" = some (isIntD d) := by
  intro d
  cases d <;> simp only [tyD, isIntD] <;> decide +kernel
theorem Rp.ty {K : PySem.W.Frag} {F H : Hp} {v : V} {d : PyData} (h : Rp F v d) (e : Same F H) : TyX K H v (.type (tyD d)) := by
  cases h with
  | non => exact .base .non
  | bl b => exact .base (.bl b)
  | int i => exact .base (.int i)
  | str x => exact .base (.str x)
  | lst h _ => exact .base (.lst (e _ _ h))
  | tup h _ => exact .base (.tup (e _ _ h))
  | dk h _ => exact .base (.dK (e _ _ h))
  | dt h _ => exact .base (.dT (e _ _ h))
section
variable {X : Cx} {e a b : Expr} {ρ : Env} {L : Ow} {p p2 pos : Pos}
theorem x_isD {o : Option PyData} {T : String} {x : Str} {fb : PyData → Bool} (hf : ∀ d, kitB (tyD d) T = some (fb d)) (h : EX X dD e ρ L o) (hm : X.mg "isinstance" = none) (hm2 : X.mg x = none) (hb : bootBuiltins x = some (.type T)) (hg2 : Gl X x := by rfl)
    (hs : starEach [e, .Name x p2] X.env = (false, eval e X.env) :: starEach [.Name x p2] X.env := by rfl) (hs2 : starEach [.Name x p2] X.env = (false, eval (.Name x p2) X.env) :: starEach [] X.env := by rfl)
    (hp : Gl X x → X.mg x = none → bootBuiltins x = some (.type T) → PE X (.Name x p2) (tC (.ty T)) := by intro g m b; exact pe_bltn (v := .ty _) g m b rfl)
    (hh : X.mg "isinstance" = none → ∀ {t}, PA X [e, .Name x p2] t → PE X (.Call (.Name "isinstance" p) [e, .Name x p2] [] pos) (tCB (rIsi X.K) t) := by intro hm _ h; exact pe_callB call_isi (by rfl) hm (by decide +kernel) h) :
    EX X dB (.Call (.Name "isinstance" p) [e, .Name x p2] [] pos) ρ L (o.map fb) := by
  obtain ⟨t, q, h⟩ := h
  refine ⟨_, hh hm (pa_cons q (pa_cons (hp hg2 hm2 hb) pa_nil hs2) hs), fun z hz B F0 σ H vs ds Q s k => ?_⟩
  obtain ⟨y, hy, rfl⟩ := Option.map_eq_some_iff.mp hz
  refine h y hy B F0 σ H vs ds _ s fun v H1 s1 => ?_
  obtain ⟨F, ok, sl, sv⟩ := id s1
  cases sv with
  | cons r _ => exact ⟨v, .ty T, .type (tyD y), .type T, fb y, rfl, .ty T, Rp.ty r ok.le, hf y, k _ _ s1.pop.bl⟩
theorem EX.qd {o : Option PyData} (h : EX X dD e ρ L o) : QX X dD e ρ L (o.bind seqD) := by
  obtain ⟨t, p, h⟩ := h
  refine ⟨t, p, fun xs hx B F0 σ H vs ds Q s k => ?_⟩
  obtain ⟨y, hy, hx⟩ := Option.bind_eq_some_iff.mp hx
  refine h y hy B F0 σ H vs ds _ s fun v H1 s1 => ?_
  have e0 : xs.map dD = xs := by
    show xs.map (fun x => x) = xs
    exact List.map_id' xs
  cases y with
  | list ys => cases hx; exact k v _ H1 (by rw [e0]; exact .lst _) s1
  | tuple ys => cases hx; exact k v _ H1 (by rw [e0]; exact .tup _) s1
  | _ => cases hx
theorem o_eqDD {K : PySem.W.Frag} : Op2 K (rEqD K) dD dD dB eqvO := by
  intro a b z hz B F0 ρ L σ H vs ds v u Q s k
  unfold eqvO at hz
  split at hz
  · rename_i hc
    rw [Bool.and_eq_true] at hc
    cases hz
    obtain ⟨F, ok, sl, sv⟩ := id s
    cases sv with
    | cons r1 t =>
      cases t with
      | cons r2 t => exact ⟨a, b, Rp.dp ok.le _ _ (nod_of_lay _ (PySem.SeqAt.canLay_of_shaped hc.1)) r2, Rp.dp ok.le _ _ (nod_of_lay _ (PySem.SeqAt.canLay_of_shaped hc.2)) r1, hc.1, hc.2, k _ _ s.pop.pop.bl⟩
  · cases hz
theorem o_isND {K : PySem.W.Frag} : Op2 K (fun x y H Q => y = .non ∧ Q (.bl (decide (x = .non))) H) dD dN dB (fun a _ => some (isNoneD a)) := by
  intro a b z hz B F0 ρ L σ H vs ds v u Q s k
  cases hz
  refine ⟨s.isNon, ?_⟩
  obtain ⟨F, ok, sl, sv⟩ := id s.pop
  cases sv with
  | cons r t =>
    have e : decide (v = .non) = isNoneD a := by
      have r' : Rp F v a := r
      cases r' <;> simp [isNoneD]
    rw [e]
    exact k _ _ s.pop.pop.bl
end

section
variable {X : Cx} {α β γ : Type} {a b c : Expr} {ρ : Env} {L : Ow} {pos : Pos} {d : α → PyData} {d' : β → PyData} {f : γ → PyData}
theorem t_chainP {op op' : CmpOp} {r r' : R2} {g : α → β → Bool} {g' : β → γ → Bool} {x : α} {y : β} {z2 : γ} (ho : OpR X (compareOp op) r) (ho' : OpR X (compareOp op') r') (hg : Op2 X.K r d d' dB (fun a b => some (g a b))) (hg' : Op2 X.K r' d' f dB (fun a b => some (g' a b)))
    (ha : EX X d a ρ L (some x)) (hb : EX X d' b ρ L (some y)) (hc : EX X f c ρ L (some z2)) (p : OpR X (compareOp op) r → OpR X (compareOp op') r' → ∀ {ta tb tc}, PE X a ta → PE X b tb → PE X c tc → PT X (.Compare a [op, op'] [b, c] pos) (tTest (tChain r r' ta tb tc)) := by intro ho ho' _ _ _ h1 h2 h3; exact pt_chain ho ho' h1 h2 h3) :
    TX X (.Compare a [op, op'] [b, c] pos) ρ L (some (g x y && g' y z2)) := by
  obtain ⟨ta, pa, ha⟩ := ha
  obtain ⟨tb, pb, hb⟩ := hb
  obtain ⟨tc, pc, hc⟩ := hc
  refine ⟨_, p ho ho' pa pb pc, fun z hz B F0 σ H vs ds Q s k => ?_⟩
  cases hz
  refine ha x rfl B F0 σ H vs ds _ s fun v H1 s1 => hb y rfl B F0 σ H1 _ _ _ s1 fun u H2 s2 => ?_
  have s2' : St X.K B F0 ρ L σ H2 (u :: v :: u :: vs) (.dat (d' y) :: .dat (d x) :: .dat (d' y) :: ds) := s2.stack fun F r => by
    cases r with | cons r1 t => cases t with | cons r2 t => exact .cons r1 (.cons r2 (.cons r1 t))
  refine hg x y _ rfl B F0 ρ L σ H2 _ _ v u _ s2' fun w H3 s3 => ⟨_, s3.isBl, ?_⟩
  cases hk : g x y with
  | true =>
    refine iteT (hc z2 rfl B F0 σ H3 _ _ _ s3.pop fun w2 H4 s4 => hg' y z2 _ rfl B F0 ρ L σ H4 vs ds u w2 _ s4 fun w3 H5 s5 => ⟨g' y z2, s5.isBl, ?_⟩)
    rw [hk, Bool.true_and] at k
    exact k _ s5.pop
  | false =>
    rw [hk, Bool.false_and] at k
    exact iteF ⟨false, rfl, k _ s3.pop.pop⟩
end

/-! ### arguments one by one -/
section
variable {β : Type} {W : Type}
theorem ca1 {α1 : Type} (o1 : Option α1) (m : α1 × Unit → Option β) : (((o1).bind fun x => (some ()).bind fun y => some (x, y)).bind m) = o1.bind fun x1 => m (x1, ()) := by
  cases o1 <;> rfl
theorem cw1 {α1 : Type} (o1 : Option α1) (w : W) (m : α1 × Unit → W → Option β) : ((((o1).bind fun x => (some ()).bind fun y => some (x, y)).map fun a => (a, w)).bind fun q => m q.1 q.2) = o1.bind fun x1 => m (x1, ()) w := by
  cases o1 <;> rfl
theorem cl1 (o1 : Option β) : ((o1).bind fun x => (some []).bind fun y => some (x :: y)) = o1.bind fun x1 => some [x1] := by
  cases o1 <;> rfl
theorem ca2 {α1 α2 : Type} (o1 : Option α1) (o2 : Option α2) (m : α1 × α2 × Unit → Option β) : (((o1).bind fun x => ((o2).bind fun x => (some ()).bind fun y => some (x, y)).bind fun y => some (x, y)).bind m) = o1.bind fun x1 => o2.bind fun x2 => m (x1, x2, ()) := by
  cases o1 <;> cases o2 <;> rfl
theorem cw2 {α1 α2 : Type} (o1 : Option α1) (o2 : Option α2) (w : W) (m : α1 × α2 × Unit → W → Option β) : ((((o1).bind fun x => ((o2).bind fun x => (some ()).bind fun y => some (x, y)).bind fun y => some (x, y)).map fun a => (a, w)).bind fun q => m q.1 q.2) = o1.bind fun x1 => o2.bind fun x2 => m (x1, x2, ()) w := by
  cases o1 <;> cases o2 <;> rfl
theorem cl2 (o1 : Option β) (o2 : Option β) : ((o1).bind fun x => ((o2).bind fun x => (some []).bind fun y => some (x :: y)).bind fun y => some (x :: y)) = o1.bind fun x1 => o2.bind fun x2 => some [x1, x2] := by
  cases o1 <;> cases o2 <;> rfl
theorem ca3 {α1 α2 α3 : Type} (o1 : Option α1) (o2 : Option α2) (o3 : Option α3) (m : α1 × α2 × α3 × Unit → Option β) : (((o1).bind fun x => ((o2).bind fun x => ((o3).bind fun x => (some ()).bind fun y => some (x, y)).bind fun y => some (x, y)).bind fun y => some (x, y)).bind m) = o1.bind fun x1 => o2.bind fun x2 => o3.bind fun x3 => m (x1, x2, x3, ()) := by
  cases o1 <;> cases o2 <;> cases o3 <;> rfl
theorem cw3 {α1 α2 α3 : Type} (o1 : Option α1) (o2 : Option α2) (o3 : Option α3) (w : W) (m : α1 × α2 × α3 × Unit → W → Option β) : ((((o1).bind fun x => ((o2).bind fun x => ((o3).bind fun x => (some ()).bind fun y => some (x, y)).bind fun y => some (x, y)).bind fun y => some (x, y)).map fun a => (a, w)).bind fun q => m q.1 q.2) = o1.bind fun x1 => o2.bind fun x2 => o3.bind fun x3 => m (x1, x2, x3, ()) w := by
  cases o1 <;> cases o2 <;> cases o3 <;> rfl
theorem cl3 (o1 : Option β) (o2 : Option β) (o3 : Option β) : ((o1).bind fun x => ((o2).bind fun x => ((o3).bind fun x => (some []).bind fun y => some (x :: y)).bind fun y => some (x :: y)).bind fun y => some (x :: y)) = o1.bind fun x1 => o2.bind fun x2 => o3.bind fun x3 => some [x1, x2, x3] := by
  cases o1 <;> cases o2 <;> cases o3 <;> rfl
theorem ca4 {α1 α2 α3 α4 : Type} (o1 : Option α1) (o2 : Option α2) (o3 : Option α3) (o4 : Option α4) (m : α1 × α2 × α3 × α4 × Unit → Option β) : (((o1).bind fun x => ((o2).bind fun x => ((o3).bind fun x => ((o4).bind fun x => (some ()).bind fun y => some (x, y)).bind fun y => some (x, y)).bind fun y => some (x, y)).bind fun y => some (x, y)).bind m) = o1.bind fun x1 => o2.bind fun x2 => o3.bind fun x3 => o4.bind fun x4 => m (x1, x2, x3, x4, ()) := by
  cases o1 <;> cases o2 <;> cases o3 <;> cases o4 <;> rfl
theorem cw4 {α1 α2 α3 α4 : Type} (o1 : Option α1) (o2 : Option α2) (o3 : Option α3) (o4 : Option α4) (w : W) (m : α1 × α2 × α3 × α4 × Unit → W → Option β) : ((((o1).bind fun x => ((o2).bind fun x => ((o3).bind fun x => ((o4).bind fun x => (some ()).bind fun y => some (x, y)).bind fun y => some (x, y)).bind fun y => some (x, y)).bind fun y => some (x, y)).map fun a => (a, w)).bind fun q => m q.1 q.2) = o1.bind fun x1 => o2.bind fun x2 => o3.bind fun x3 => o4.bind fun x4 => m (x1, x2, x3, x4, ()) w := by
  cases o1 <;> cases o2 <;> cases o3 <;> cases o4 <;> rfl
theorem cl4 (o1 : Option β) (o2 : Option β) (o3 : Option β) (o4 : Option β) : ((o1).bind fun x => ((o2).bind fun x => ((o3).bind fun x => ((o4).bind fun x => (some []).bind fun y => some (x :: y)).bind fun y => some (x :: y)).bind fun y => some (x :: y)).bind fun y => some (x :: y)) = o1.bind fun x1 => o2.bind fun x2 => o3.bind fun x3 => o4.bind fun x4 => some [x1, x2, x3, x4] := by
  cases o1 <;> cases o2 <;> cases o3 <;> cases o4 <;> rfl
theorem ca5 {α1 α2 α3 α4 α5 : Type} (o1 : Option α1) (o2 : Option α2) (o3 : Option α3) (o4 : Option α4) (o5 : Option α5) (m : α1 × α2 × α3 × α4 × α5 × Unit → Option β) : (((o1).bind fun x => ((o2).bind fun x => ((o3).bind fun x => ((o4).bind fun x => ((o5).bind fun x => (some ()).bind fun y => some (x, y)).bind fun y => some (x, y)).bind fun y => some (x, y)).bind fun y => some (x, y)).bind fun y => some (x, y)).bind m) = o1.bind fun x1 => o2.bind fun x2 => o3.bind fun x3 => o4.bind fun x4 => o5.bind fun x5 => m (x1, x2, x3, x4, x5, ()) := by
  cases o1 <;> cases o2 <;> cases o3 <;> cases o4 <;> cases o5 <;> rfl
theorem cw5 {α1 α2 α3 α4 α5 : Type} (o1 : Option α1) (o2 : Option α2) (o3 : Option α3) (o4 : Option α4) (o5 : Option α5) (w : W) (m : α1 × α2 × α3 × α4 × α5 × Unit → W → Option β) : ((((o1).bind fun x => ((o2).bind fun x => ((o3).bind fun x => ((o4).bind fun x => ((o5).bind fun x => (some ()).bind fun y => some (x, y)).bind fun y => some (x, y)).bind fun y => some (x, y)).bind fun y => some (x, y)).bind fun y => some (x, y)).map fun a => (a, w)).bind fun q => m q.1 q.2) = o1.bind fun x1 => o2.bind fun x2 => o3.bind fun x3 => o4.bind fun x4 => o5.bind fun x5 => m (x1, x2, x3, x4, x5, ()) w := by
  cases o1 <;> cases o2 <;> cases o3 <;> cases o4 <;> cases o5 <;> rfl
theorem cl5 (o1 : Option β) (o2 : Option β) (o3 : Option β) (o4 : Option β) (o5 : Option β) : ((o1).bind fun x => ((o2).bind fun x => ((o3).bind fun x => ((o4).bind fun x => ((o5).bind fun x => (some []).bind fun y => some (x :: y)).bind fun y => some (x :: y)).bind fun y => some (x :: y)).bind fun y => some (x :: y)).bind fun y => some (x :: y)) = o1.bind fun x1 => o2.bind fun x2 => o3.bind fun x3 => o4.bind fun x4 => o5.bind fun x5 => some [x1, x2, x3, x4, x5] := by
  cases o1 <;> cases o2 <;> cases o3 <;> cases o4 <;> cases o5 <;> rfl
theorem ca6 {α1 α2 α3 α4 α5 α6 : Type} (o1 : Option α1) (o2 : Option α2) (o3 : Option α3) (o4 : Option α4) (o5 : Option α5) (o6 : Option α6) (m : α1 × α2 × α3 × α4 × α5 × α6 × Unit → Option β) : (((o1).bind fun x => ((o2).bind fun x => ((o3).bind fun x => ((o4).bind fun x => ((o5).bind fun x => ((o6).bind fun x => (some ()).bind fun y => some (x, y)).bind fun y => some (x, y)).bind fun y => some (x, y)).bind fun y => some (x, y)).bind fun y => some (x, y)).bind fun y => some (x, y)).bind m) = o1.bind fun x1 => o2.bind fun x2 => o3.bind fun x3 => o4.bind fun x4 => o5.bind fun x5 => o6.bind fun x6 => m (x1, x2, x3, x4, x5, x6, ()) := by
  cases o1 <;> cases o2 <;> cases o3 <;> cases o4 <;> cases o5 <;> cases o6 <;> rfl
theorem cw6 {α1 α2 α3 α4 α5 α6 : Type} (o1 : Option α1) (o2 : Option α2) (o3 : Option α3) (o4 : Option α4) (o5 : Option α5) (o6 : Option α6) (w : W) (m : α1 × α2 × α3 × α4 × α5 × α6 × Unit → W → Option β) : ((((o1).bind fun x => ((o2).bind fun x => ((o3).bind fun x => ((o4).bind fun x => ((o5).bind fun x => ((o6).bind fun x => (some ()).bind fun y => some (x, y)).bind fun y => some (x, y)).bind fun y => some (x, y)).bind fun y => some (x, y)).bind fun y => some (x, y)).bind fun y => some (x, y)).map fun a => (a, w)).bind fun q => m q.1 q.2) = o1.bind fun x1 => o2.bind fun x2 => o3.bind fun x3 => o4.bind fun x4 => o5.bind fun x5 => o6.bind fun x6 => m (x1, x2, x3, x4, x5, x6, ()) w := by
  cases o1 <;> cases o2 <;> cases o3 <;> cases o4 <;> cases o5 <;> cases o6 <;> rfl
theorem cl6 (o1 : Option β) (o2 : Option β) (o3 : Option β) (o4 : Option β) (o5 : Option β) (o6 : Option β) : ((o1).bind fun x => ((o2).bind fun x => ((o3).bind fun x => ((o4).bind fun x => ((o5).bind fun x => ((o6).bind fun x => (some []).bind fun y => some (x :: y)).bind fun y => some (x :: y)).bind fun y => some (x :: y)).bind fun y => some (x :: y)).bind fun y => some (x :: y)).bind fun y => some (x :: y)) = o1.bind fun x1 => o2.bind fun x2 => o3.bind fun x3 => o4.bind fun x4 => o5.bind fun x5 => o6.bind fun x6 => some [x1, x2, x3, x4, x5, x6] := by
  cases o1 <;> cases o2 <;> cases o3 <;> cases o4 <;> cases o5 <;> cases o6 <;> rfl
theorem ca7 {α1 α2 α3 α4 α5 α6 α7 : Type} (o1 : Option α1) (o2 : Option α2) (o3 : Option α3) (o4 : Option α4) (o5 : Option α5) (o6 : Option α6) (o7 : Option α7) (m : α1 × α2 × α3 × α4 × α5 × α6 × α7 × Unit → Option β) : (((o1).bind fun x => ((o2).bind fun x => ((o3).bind fun x => ((o4).bind fun x => ((o5).bind fun x => ((o6).bind fun x => ((o7).bind fun x => (some ()).bind fun y => some (x, y)).bind fun y => some (x, y)).bind fun y => some (x, y)).bind fun y => some (x, y)).bind fun y => some (x, y)).bind fun y => some (x, y)).bind fun y => some (x, y)).bind m) = o1.bind fun x1 => o2.bind fun x2 => o3.bind fun x3 => o4.bind fun x4 => o5.bind fun x5 => o6.bind fun x6 => o7.bind fun x7 => m (x1, x2, x3, x4, x5, x6, x7, ()) := by
  cases o1 <;> cases o2 <;> cases o3 <;> cases o4 <;> cases o5 <;> cases o6 <;> cases o7 <;> rfl
theorem cw7 {α1 α2 α3 α4 α5 α6 α7 : Type} (o1 : Option α1) (o2 : Option α2) (o3 : Option α3) (o4 : Option α4) (o5 : Option α5) (o6 : Option α6) (o7 : Option α7) (w : W) (m : α1 × α2 × α3 × α4 × α5 × α6 × α7 × Unit → W → Option β) : ((((o1).bind fun x => ((o2).bind fun x => ((o3).bind fun x => ((o4).bind fun x => ((o5).bind fun x => ((o6).bind fun x => ((o7).bind fun x => (some ()).bind fun y => some (x, y)).bind fun y => some (x, y)).bind fun y => some (x, y)).bind fun y => some (x, y)).bind fun y => some (x, y)).bind fun y => some (x, y)).bind fun y => some (x, y)).map fun a => (a, w)).bind fun q => m q.1 q.2) = o1.bind fun x1 => o2.bind fun x2 => o3.bind fun x3 => o4.bind fun x4 => o5.bind fun x5 => o6.bind fun x6 => o7.bind fun x7 => m (x1, x2, x3, x4, x5, x6, x7, ()) w := by
  cases o1 <;> cases o2 <;> cases o3 <;> cases o4 <;> cases o5 <;> cases o6 <;> cases o7 <;> rfl
theorem cl7 (o1 : Option β) (o2 : Option β) (o3 : Option β) (o4 : Option β) (o5 : Option β) (o6 : Option β) (o7 : Option β) : ((o1).bind fun x => ((o2).bind fun x => ((o3).bind fun x => ((o4).bind fun x => ((o5).bind fun x => ((o6).bind fun x => ((o7).bind fun x => (some []).bind fun y => some (x :: y)).bind fun y => some (x :: y)).bind fun y => some (x :: y)).bind fun y => some (x :: y)).bind fun y => some (x :: y)).bind fun y => some (x :: y)).bind fun y => some (x :: y)) = o1.bind fun x1 => o2.bind fun x2 => o3.bind fun x3 => o4.bind fun x4 => o5.bind fun x5 => o6.bind fun x6 => o7.bind fun x7 => some [x1, x2, x3, x4, x5, x6, x7] := by
  cases o1 <;> cases o2 <;> cases o3 <;> cases o4 <;> cases o5 <;> cases o6 <;> cases o7 <;> rfl
end
end Mir
namespace Mir
open PySem L2
section
variable {X : Cx} {α β γ S W : Type} {a b c e : Expr} {ρ ρ' : Env} {L : Ow} {pos px py pz pt pt2 : Pos} {kt k2 : Nat} {d : α → PyData} {d' : β → PyData} {f : γ → PyData} {x y z : Str} {rest : List Stmt} {δ : Type} {oc : δ → Oc}
/-- x, y = a, b in a world that turns -/
theorem s_parM {Lf : W → Ow} {w : W} {ma : Option (α × W)} {mb : α → W → Option (β × W)} (i j : Nat) (hc : X.calm = true) (hN : X.N.Nodup) (ha : EM X d a ρ Lf w ma) (hb : ∀ x w1, EM X d' b ρ Lf w1 (mb x w1)) (hij : i ≠ j := by decide) (hi : X.N[i]? = some x := by rfl) (hj : X.N[j]? = some y := by rfl)
    (hx : X.env.scope.names.lookup x = some .local := by rfl) (hy : X.env.scope.names.lookup y = some .local := by rfl) (h1 : starEach [a, b] X.env = (false, eval a X.env) :: starEach [b] X.env := by rfl) (h2 : starEach [b] X.env = (false, eval b X.env) :: starEach [] X.env := by rfl)
    (hw : swappedStores [.Tuple [.Name x px, .Name y py] kt pt] (.Tuple [a, b] k2 pt2) X.env = pure (some [x, y]) := by rfl)
    (hs : swapsWithSole [.Tuple [.Name x px, .Name y py] kt pt] (.Tuple [a, b] k2 pt2) pos.line X.env = pure false := by rfl) :
    SX X (.Assign [.Tuple [.Name x px, .Name y py] kt pt] (.Tuple [a, b] k2 pt2) pos) ρ (Lf w) (ma.bind fun u => (mb u.1 u.2).bind fun v => some ((u.1, v.1), v.2)) (ocn fun q => ((ρ.set i (some (.dat (d q.1.1)))).set j (some (.dat (d' q.1.2))), Lf q.2)) := by
  obtain ⟨ta, pa, ha⟩ := ha
  obtain ⟨tb, pb, hb⟩ := EM.all (S := α × W) (ρf := fun _ => ρ) (wf := fun q => q.2) (k := fun q => mb q.1 q.2) fun q => hb q.1 q.2
  refine ⟨_, ps_par hc hN hi hj hij hx hy (pa_cons pa (pa_cons pb pa_nil h2) h1) hw hs, fun q hq B F0 σ H vs ds D s g => ?_⟩
  obtain ⟨⟨u, w1⟩, hu, hq⟩ := Option.bind_eq_some_iff.mp hq
  obtain ⟨⟨v, w2⟩, hv, hq⟩ := Option.bind_eq_some_iff.mp hq
  cases hq
  refine ha u w1 hu B F0 σ H vs ds _ s fun x1 H1 s1 => hb (u, w1) v w2 hv B F0 σ H1 _ _ _ s1 fun y1 H2 s2 => ⟨x1, y1, rfl, g _ _ ?_⟩
  exact St.store j (St.store i s2.swap)
end

/-! ### the law itself, and the end -/
theorem fnok_fn {P : Program} {w : World} {K : PySem.W.Frag} {mg : Str → Option Value} {base : Heap} {α β : Type} {x qual : Str} {st : Stmt} {f : Addr} {fd : FuncData} {N ps : List Str} {k : Nat} {enc : α → List Sl} {dR : β → PyData} {m : α → Option β} (F : Fun K x qual st f fd) (S : FnScope N ps (defScope st)) (hl : ∀ a, (enc a).length = ps.length)
    (body : ∀ (cdv : Value) (A : Around) (outer : List PySem.Env) (s : Shared) (H : Hp) (E : XK), Room k (A.deeper (PyProof.Rows.envOfC qual (defScope st) s.heap.objs.size f cdv)) → ∀ a, BX (cxOf CX0 P w K mg base N qual (defScope st) f cdv A outer s H E).nox (defBody st) (startE N (enc a)) [] (m a) (ocr fun r => (.dat (dR r), []))) :
    FnOk P w K mg base CX0 (k + 1) f fd ps (spP K enc dR m) := by
  refine F.ok S (fun vs H Q E h => ?_) (fun cdv A outer s H vs Q E hr h => ?_)
  · obtain ⟨a, r, F', _, _, hv, _⟩ := h
    rw [Paired.length hv]
    exact hl a
  · obtain ⟨a, r, F', hm, ok, hv, q⟩ := h
    obtain ⟨t, p, hb⟩ := body cdv A outer s H E hr a
    refine ⟨t, p, hb r hm H F' _ H [] [] _ ⟨F', ok, start_pr hv, .nil⟩ ?_⟩
    rintro v H' ⟨F2, ok2, _, sv⟩
    cases sv with
    | cons r2 t2 => exact q v F2 H' ok2 r2
def spLaw (K : PySem.W.Frag) : Sp := fun vs H Q _ => ∃ (a : Addr) (ns : List Int), vs = [.ref a] ∧ SqL K H a (ns.map V.int) ∧ ns.length ≤ 63 ∧ (∀ z ∈ ns, Builtin.Int.intBits z ≤ 1048576) ∧ Only H ∧ ∀ H', Q (.bl true) H'
theorem law_imp {P : Program} {w : World} {K : PySem.W.Frag} {mg : Str → Option Value} {base : Heap} {f : Addr} {fd : FuncData} {k : Nat} {m : List Int → Option Bool} (hm : ∀ ns : List Int, ns.length ≤ 63 → (∀ z ∈ ns, Builtin.Int.intBits z ≤ 1048576) → m ns = some true) (h : FnOk P w K mg base CX0 k f fd ["script"] (spP K (encR enc0) dB (fun a : List Int × Unit => m a.1))) : FnOk P w K mg base CX0 k f fd ["script"] (spLaw K) :=
  h.imp fun vs H Q E q => by
    obtain ⟨a, ns, rfl, hs, hl, hb, ho, q⟩ := q
    refine ⟨(ns, ()), true, H, hm ns hl hb, ⟨Same.refl _, Same.refl _, Same.refl _, fun a o e => .inl e, fun a o e => ?_, fun p m => (by cases m), List.nodup_nil⟩, .cons ⟨a, rfl, hs⟩ .nil, fun v F' H' _ r => ?_⟩
    · rcases ho a with z | ⟨o', xs, z⟩
      · rw [z] at e; cases e
      · rw [z] at e; cases e; exact True.intro
    · cases (show Rp F' v (.bool true) from r)
      exact q H'
theorem walk_law {l : PySem.W.OpenLaw} {k : Nat} {q : Program} {loose : List Str} {XP : (Str → Option Value) → Heap → Prop} {YP : World → Heap → Prop} {d : DefRec} {K : Params → PySem.W.Frag} (hn : l.most = some 63) (hdf : d.params.defaults = []) (hr : Room k callerA)
    (hY : ∀ (w : World) (h : Heap), YP w h → (K w.params).In h)
    (F : ∀ (w : World) (mg : Str → Option Value) (fa : Addr) (h : Heap), (K w.params).In h → h.Ns mainGlobals mg → mg d.name = some (.ref fa) →
      ∃ fd : FuncData, (∀ (s : Shared) (u : Value), BindsTo s fd ⟨[u], []⟩ [("script", u)]) ∧ ∀ base : Heap, (K w.params).In base → base.Ns mainGlobals mg → FnOk l.prog w (K w.params) mg base CX0 k fa fd ["script"] (spLaw (K w.params))) :
    PySem.W.WalkO q loose XP YP l.row.toRowW d [] (fun f vs => PySem.call f vs) :=
  L2.walk_ofB (n := 63) (k := k) (x := "script") (CX := fun _ => CX0) (sp := fun w => spLaw (K w.params)) hn (by decide) hdf hr hY F (fun _ _ a ns hl hb hO hS => ⟨a, ns, rfl, hS, hl, hb, hO, fun _ => rfl⟩) fun _ _ _ _ _ z => z
end Mir
namespace Mir
open PySem L2
/-! ### plain lemmas on mirrors -/
section
variable {α β γ S W : Type}
/-- a value there is, and it is as P says -/
def Ho (o : Option α) (P : α → Prop) : Prop := ∃ x, o = some x ∧ P x
theorem Ho.bind {o : Option α} {P : α → Prop} {f : α → Option β} {Q : β → Prop} (h : Ho o P) (k : ∀ x, P x → Ho (f x) Q) : Ho (o.bind f) Q := by
  obtain ⟨x, rfl, p⟩ := h
  exact k x p
theorem Ho.map {o : Option α} {P : α → Prop} {f : α → β} {Q : β → Prop} (h : Ho o P) (k : ∀ x, P x → Q (f x)) : Ho (o.map f) Q := by
  obtain ⟨x, rfl, p⟩ := h
  exact ⟨f x, rfl, k x p⟩
theorem Ho.mono {o : Option α} {P Q : α → Prop} (h : Ho o P) (k : ∀ x, P x → Q x) : Ho o Q := by
  obtain ⟨x, e, p⟩ := h
  exact ⟨x, e, k x p⟩
theorem ho_some {x : α} {P : α → Prop} (h : P x) : Ho (some x) P := ⟨x, rfl, h⟩
theorem ho_eq {o : Option α} {x : α} (h : o = some x) : Ho o (fun y => y = x) := ⟨x, h, rfl⟩
theorem ho_of {o : Option α} {x : α} {P : α → Prop} (h : o = some x) (p : P x) : Ho o P := ⟨x, h, p⟩
theorem Ho.eq {o : Option α} {x : α} (h : Ho o (fun y => y = x)) : o = some x := by
  obtain ⟨y, e, rfl⟩ := h
  exact e
theorem ho_ite {c : Bool} {a b : Option α} {P : α → Prop} (h : c = true → Ho a P) (h' : c = false → Ho b P) : Ho (if c then a else b) P := by
  cases c with
  | true => exact h rfl
  | false => exact h' rfl
theorem ho_foldI {f : S → α → Option S} {Inv : List α → S → Prop} : ∀ {xs pre : List α} {s : S}, Inv pre s → (∀ p x s, (∃ q, pre ++ xs = p ++ x :: q) → Inv p s → Ho (f s x) (Inv (p ++ [x]))) → Ho (foldO f xs s) (Inv (pre ++ xs))
  | [], pre, s, h0, _ => by rw [List.append_nil]; exact ho_some h0
  | x :: xs, pre, s, h0, h => by
    refine (h pre x s ⟨xs, rfl⟩ h0).bind fun s' h1 => ?_
    have := ho_foldI (xs := xs) (pre := pre ++ [x]) h1 fun p y t hp => h p y t (by rw [List.append_assoc] at hp; exact hp)
    rw [List.append_assoc] at this
    exact this
theorem ho_fold {f : S → α → Option S} {Inv : S → Prop} {xs : List α} {s : S} (h0 : Inv s) (h : ∀ s x, x ∈ xs → Inv s → Ho (f s x) Inv) : Ho (foldO f xs s) Inv :=
  ho_foldI (Inv := fun _ s => Inv s) (pre := []) h0 fun p x s ⟨q, e⟩ i => h s x (by rw [List.nil_append] at e; rw [e]; simp) i
theorem fold_eq {f : S → α → Option S} {g : S → α → S} : ∀ {xs : List α} {s : S}, (∀ s x, x ∈ xs → f s x = some (g s x)) → foldO f xs s = some (xs.foldl g s)
  | [], s, _ => rfl
  | x :: xs, s, h => by
    show (f s x).bind _ = _
    rw [h s x List.mem_cons_self, Option.bind_some, List.foldl_cons]
    exact fold_eq fun s y hy => h s y (List.mem_cons_of_mem _ hy)
theorem ho_for {R : Type} {f : S → α → Option (Fl S R)} {Inv : S → Prop} : ∀ {xs : List α} {s : S}, Inv s → (∀ s x, x ∈ xs → Inv s → Ho (f s x) (fun r => ∃ s', r = .nx s' ∧ Inv s')) → Ho (forO f xs s) (fun r => ∃ s', r = .go s' ∧ Inv s')
  | [], s, h0, _ => ho_some ⟨s, rfl, h0⟩
  | x :: xs, s, h0, h => by
    refine (h s x List.mem_cons_self h0).bind fun r hr => ?_
    obtain ⟨s', rfl, h1⟩ := hr
    exact ho_for h1 fun s y hy => h s y (List.mem_cons_of_mem _ hy)
/-- a loop that finds: the first x at which f exits -/
theorem for_find {R : Type} {f : S → α → Option (Fl S R)} {s : S} {r : R} {x : α} : ∀ {pre post : List α}, (∀ y ∈ pre, f s y = some (.nx s)) → f s x = some (.ex r) → forO f (pre ++ x :: post) s = some (.ex r)
  | [], post, _, h => by
    show (f s x).bind _ = _
    rw [h]
    rfl
  | y :: pre, post, hp, h => by
    show (f s y).bind _ = _
    rw [hp y List.mem_cons_self]
    exact for_find (fun z hz => hp z (List.mem_cons_of_mem _ hz)) h
theorem for_none {R : Type} {f : S → α → Option (Fl S R)} {s : S} : ∀ {xs : List α}, (∀ y ∈ xs, f s y = some (.nx s)) → forO f xs s = some (.go s)
  | [], _ => rfl
  | y :: xs, h => by
    show (f s y).bind _ = _
    rw [h y List.mem_cons_self]
    exact for_none fun z hz => h z (List.mem_cons_of_mem _ hz)
theorem ho_loop {c : S → Option Bool} {f : S → Option S} {Inv : S → Prop} {Q : S → Prop} (μ : S → Nat) (h : ∀ s, Inv s → Ho (c s) (fun b => if b then Ho (f s) (fun s' => Inv s' ∧ μ s' < μ s) else Q s)) : ∀ {n : Nat} {s : S}, Inv s → μ s < n → Ho (loopO c f n s) Q
  | 0, s, _, hm => absurd hm (Nat.not_lt_zero _)
  | n + 1, s, hi, hm => by
    obtain ⟨b, hb, hq⟩ := h s hi
    unfold loopO
    rw [hb, Option.bind_some]
    cases b with
    | false => exact ho_some hq
    | true =>
      rw [if_pos rfl]
      refine Ho.bind hq fun s' hs => ho_loop μ h hs.1 (by have := hs.2; omega)
theorem ho_while {R : Type} {c : S → Option Bool} {f : S → Option (Fl S R)} {Inv : S → Prop} {Q : Fx S R → Prop} (μ : S → Nat) (h : ∀ s, Inv s → Ho (c s) (fun b => if b then Ho (f s) (fun r => match r with | .nx s' => Inv s' ∧ μ s' < μ s | .ct s' => Inv s' ∧ μ s' < μ s | .bk s' => Q (.go s') | .ex r => Q (.ex r)) else Q (.go s))) : ∀ {n : Nat} {s : S}, Inv s → μ s < n → Ho (whileO c f n s) Q
  | 0, s, _, hm => absurd hm (Nat.not_lt_zero _)
  | n + 1, s, hi, hm => by
    obtain ⟨b, hb, hq⟩ := h s hi
    unfold whileO
    rw [hb, Option.bind_some]
    cases b with
    | false => exact ho_some hq
    | true =>
      simp only [if_true] at hq ⊢
      refine Ho.bind hq fun r hr => ?_
      cases r with
      | nx s' => exact ho_while μ h hr.1 (by have := hr.2; omega)
      | ct s' => exact ho_while μ h hr.1 (by have := hr.2; omega)
      | bk s' => exact ho_some hr
      | ex r => exact ho_some hr
theorem mapO_eq {k : α → Option β} {f : α → β} : ∀ {xs : List α}, (∀ x ∈ xs, k x = some (f x)) → mapO k xs = some (xs.map f)
  | [], _ => rfl
  | x :: xs, h => by
    show (k x).bind _ = _
    rw [h x List.mem_cons_self, Option.bind_some, mapO_eq fun y hy => h y (List.mem_cons_of_mem _ hy)]
    rfl
theorem filtO_eq {c : α → Option Bool} {k : α → Option β} {p : α → Bool} {f : α → β} : ∀ {xs : List α}, (∀ x ∈ xs, c x = some (p x)) → (∀ x ∈ xs, p x = true → k x = some (f x)) → filtO c k xs = some ((xs.filter p).map f)
  | [], _, _ => rfl
  | x :: xs, h, h' => by
    have ih := filtO_eq (xs := xs) (fun y hy => h y (List.mem_cons_of_mem _ hy)) fun y hy => h' y (List.mem_cons_of_mem _ hy)
    show (c x).bind _ = _
    rw [h x List.mem_cons_self, Option.bind_some]
    cases hp : p x with
    | true =>
      rw [if_pos rfl, h' x List.mem_cons_self hp, Option.bind_some, ih, List.filter_cons, hp]
      rfl
    | false =>
      rw [if_neg (by simp), ih, List.filter_cons, hp]
      rfl
theorem filtO_id {c : α → Option Bool} {p : α → Bool} {xs : List α} (h : ∀ x ∈ xs, c x = some (p x)) : filtO c (fun x => some x) xs = some (xs.filter p) := by
  rw [filtO_eq (f := fun x => x) h fun _ _ _ => rfl, List.map_id']
/-- comprehensions that turn the world: what comes is made of what was walked -/
theorem ho_filtW {c : α → W → Option (Bool × W)} {k : α → W → Option (β × W)} {P : β → Prop} {Iw : W → Prop} : ∀ {xs : List α} {w : W}, Iw w → (∀ x ∈ xs, ∀ w, Iw w → Ho (c x w) (fun r => Iw r.2)) → (∀ x ∈ xs, ∀ w, Iw w → Ho (k x w) (fun r => P r.1 ∧ Iw r.2)) → Ho (filtW c k xs w) (fun r => (∀ y ∈ r.1, P y) ∧ Iw r.2)
  | [], w, hw, _, _ => ho_some ⟨fun _ h => (by cases h), hw⟩
  | x :: xs, w, hw, hc, hk => by
    refine (hc x List.mem_cons_self w hw).bind fun b hb => ?_
    have ih := fun {w} (hw : Iw w) => ho_filtW (xs := xs) (w := w) (P := P) hw (fun y hy => hc y (List.mem_cons_of_mem _ hy)) fun y hy => hk y (List.mem_cons_of_mem _ hy)
    refine ho_ite (fun _ => ?_) (fun _ => ih hb)
    refine (hk x List.mem_cons_self b.2 hb).bind fun y hy => (ih hy.2).map fun r hr => ⟨fun z hz => ?_, hr.2⟩
    rcases List.mem_cons.mp hz with rfl | hz
    · exact hy.1
    · exact hr.1 z hz
/-- .. the walked items that passed, as they stand -/
theorem ho_filtWs {c : α → W → Option (Bool × W)} {f : α → β} {Iw : W → Prop} : ∀ {xs : List α} {w : W}, Iw w → (∀ x ∈ xs, ∀ w, Iw w → Ho (c x w) (fun r => Iw r.2)) → Ho (filtW c (fun x w => some (f x, w)) xs w) (fun r => (∃ ys, r.1 = ys.map f ∧ List.Sublist ys xs) ∧ Iw r.2)
  | [], w, hw, _ => ho_some ⟨⟨[], rfl, List.Sublist.slnil⟩, hw⟩
  | x :: xs, w, hw, hc => by
    refine (hc x List.mem_cons_self w hw).bind fun b hb => ?_
    have ih := fun {w} (hw : Iw w) => ho_filtWs (xs := xs) (w := w) (f := f) hw fun y hy => hc y (List.mem_cons_of_mem _ hy)
    refine ho_ite (fun _ => ?_) (fun _ => (ih hb).mono fun r hr => ?_)
    · show Ho ((filtW c (fun x w => some (f x, w)) xs b.2).map _) _
      refine (ih hb).map fun r hr => ?_
      obtain ⟨⟨ys, e, s⟩, h⟩ := hr
      exact ⟨⟨x :: ys, by rw [e]; rfl, s.cons₂ x⟩, h⟩
    · obtain ⟨⟨ys, e, s⟩, h⟩ := hr
      exact ⟨⟨ys, e, s.cons x⟩, h⟩
theorem ho_mapW {k : α → W → Option (β × W)} {P : β → Prop} {Iw : W → Prop} : ∀ {xs : List α} {w : W}, Iw w → (∀ x ∈ xs, ∀ w, Iw w → Ho (k x w) (fun r => P r.1 ∧ Iw r.2)) → Ho (mapW k xs w) (fun r => r.1.length = xs.length ∧ (∀ y ∈ r.1, P y) ∧ Iw r.2)
  | [], w, hw, _ => ho_some ⟨rfl, fun _ h => (by cases h), hw⟩
  | x :: xs, w, hw, hk => by
    refine (hk x List.mem_cons_self w hw).bind fun y hy => (ho_mapW (xs := xs) hy.2 fun z hz => hk z (List.mem_cons_of_mem _ hz)).map fun r hr => ⟨?_, fun z hz => ?_, hr.2.2⟩
    · rw [List.length_cons, List.length_cons, hr.1]
    · rcases List.mem_cons.mp hz with rfl | hz
      · exact hy.1
      · exact hr.2.1 z hz
end
/-! ### sizes and places -/
section
variable {α β : Type}
theorem line_eq : sizeLine = 16777216 := sizeLine_eq
theorem szO_eq {n : Nat} {x : α} (h : n ≤ 16777216) : szO n x = some x := by
  unfold szO
  rw [if_pos (by rw [line_eq]; exact h)]
theorem tupO_eq {xs : List α} (h : xs.length ≤ 16777216) : tupO xs = some xs := szO_eq h
theorem catO_eq {xs ys : List α} (h : xs.length + ys.length ≤ 16777216) : catO xs ys = some (xs ++ ys) := szO_eq h
theorem appO_eq {xs : List α} {a : α} (h : xs.length < 16777216) : appO xs a = some (xs ++ [a]) := by
  unfold appO
  rw [if_pos (by rw [line_eq]; exact h)]
theorem rngO_eq {a b : Int} (h : -4611686018427387904 ≤ a ∧ a < 4611686018427387904) (h' : -4611686018427387904 ≤ b ∧ b < 4611686018427387904) : rngO a b = some (rng a b) := by
  unfold rngO bigI
  simp [h, h']
theorem rngL_eq {a b : Int} (h : -4611686018427387904 ≤ a ∧ a < 4611686018427387904) (h' : -4611686018427387904 ≤ b ∧ b < 4611686018427387904) (hl : b - a ≤ 16777216) : rngL a b = some (rng a b) := by
  unfold rngL bigI
  have : (b - a).toNat ≤ 16777216 := by omega
  simp [h, h', this]
theorem mem_rng {a b x : Int} : x ∈ rng a b ↔ a ≤ x ∧ x < b := by
  unfold rng
  rw [List.mem_map]
  constructor
  · rintro ⟨i, hi, rfl⟩
    have := List.mem_range.mp hi
    omega
  · intro h
    exact ⟨(x - a).toNat, List.mem_range.mpr (by omega), by omega⟩
theorem rng_len (a b : Int) : (rng a b).length = (b - a).toNat := by unfold rng; rw [List.length_map, List.length_range]
theorem rng_lt (a b : Int) : (rng a b).Pairwise (· < ·) := by
  unfold rng
  rw [List.pairwise_map]
  exact (List.pairwise_lt_range).imp fun h => by omega
theorem rng_cons {a b : Int} (h : a < b) : rng a b = a :: rng (a + 1) b := by
  refine lt_unique (rng_lt a b) (List.pairwise_cons.mpr ⟨fun x hx => ?_, rng_lt _ _⟩) fun k => ?_
  · have := mem_rng.mp hx; omega
  · rw [List.mem_cons, mem_rng, mem_rng]; omega
theorem rng_nil {a b : Int} (h : b ≤ a) : rng a b = [] := by
  unfold rng
  have : (b - a).toNat = 0 := by omega
  rw [this]
  rfl
theorem atO_get {xs : List α} {i : Int} (h : 0 ≤ i) : atO xs i = xs[i.toNat]? := by
  unfold atO atI ixN
  rw [if_pos h]
  by_cases hl : i < xs.length
  · rw [if_pos hl]; rfl
  · rw [if_neg hl, List.getElem?_eq_none (by omega)]; rfl
theorem atO_nat {xs : List α} {i : Nat} : atO xs (i : Int) = xs[i]? := by
  rw [atO_get (by omega)]
  rfl
theorem rng_get {n : Int} {i : Nat} (h : (i : Int) < n) : (rng 0 n)[i]? = some (i : Int) := by
  unfold rng
  rw [List.getElem?_map, List.getElem?_range (by omega)]
  simp
/-- a table over range(n), read -/
theorem at_map {n x : Int} {f : Int → β} (h : 0 ≤ x) (h' : x < n) : atO ((rng 0 n).map f) x = some (f x) := by
  rw [atO_get h, List.getElem?_map, rng_get (by omega)]
  show some (f (x.toNat : Int)) = _
  have : ((x.toNat : Nat) : Int) = x := by omega
  rw [this]
theorem atO_some {xs : List α} {i : Int} {x : α} (h : atO xs i = some x) : x ∈ xs := by
  unfold atO atI at h
  obtain ⟨j, _, h⟩ := Option.bind_eq_some_iff.mp h
  exact List.mem_of_getElem? h
theorem at_ho {xs : List α} {i : Int} (h : 0 ≤ i) (h' : i < xs.length) : Ho (atO xs i) (fun x => x ∈ xs ∧ xs[i.toNat]? = some x) := by
  have hl : i.toNat < xs.length := by omega
  refine ⟨xs[i.toNat], ?_, List.getElem_mem hl, List.getElem?_eq_getElem hl⟩
  rw [atO_get h, List.getElem?_eq_getElem hl]
end
/-! ### draws -/
theorem fmod_pos {a b : Int} (h : 0 < b) : 0 ≤ a.fmod b ∧ a.fmod b < b := ⟨Int.fmod_nonneg_of_pos _ h, Int.fmod_lt_of_pos _ h⟩
theorem draw_ho {many : Int} {w : DS} (h : 0 < many) (h' : many < 1073741824) : Ho (drawM many w) (fun r => 0 ≤ r.1 ∧ r.1 < many) := by
  unfold drawM
  have e : ∀ a : Int, fmodO a many = some (a.fmod many) := fun a => by unfold fmodO; rw [if_pos (by omega)]
  have e2 : ∀ a : Int, fdivO a many = some (a.fdiv many) := fun a => by unfold fdivO; rw [if_pos (by omega)]
  cases w.1.dropWhile fun c => decide (c = 0) with
  | nil => exact ⟨_, by simp only [e]; rfl, fmod_pos h⟩
  | cons v r => exact ⟨_, by simp only [e, e2]; rfl, fmod_pos h⟩
theorem pick_ho {α : Type} {row : List α} {w : DS} (h : row ≠ []) (h' : row.length < 1073741824) : Ho (pickM row w) (fun r => r.1 ∈ row) := by
  unfold pickM
  have hl : 0 < row.length := List.length_pos_iff.mpr h
  refine (draw_ho (by omega) (by omega)).bind fun v hv => ?_
  exact (at_ho hv.1 hv.2).map fun x hx => hx.1
/-! ### sorted lists of ints -/
theorem leI_trans : ∀ a b c : Int, leI a b = true → leI b c = true → leI a c = true := fun a b c h h' => by
  unfold leI at *
  rw [decide_eq_true_eq] at *
  omega
theorem leI_total : ∀ a b : Int, (leI a b || leI b a) = true := fun a b => by
  unfold leI
  rw [Bool.or_eq_true, decide_eq_true_eq, decide_eq_true_eq]
  omega
theorem mem_ms {xs : List Int} {x : Int} : x ∈ xs.mergeSort leI ↔ x ∈ xs := (List.mergeSort_perm xs leI).mem_iff
theorem ms_len {α : Type} (le : α → α → Bool) (xs : List α) : (xs.mergeSort le).length = xs.length := List.length_mergeSort xs
theorem ms_le (xs : List Int) : (xs.mergeSort leI).Pairwise (· ≤ ·) := (List.pairwise_mergeSort (le := leI) (fun a b c => leI_trans a b c) (fun a b => leI_total a b) xs).imp fun h => by unfold leI at h; exact decide_eq_true_iff.mp h
theorem ms_nodup {xs : List Int} : (xs.mergeSort leI).Nodup ↔ xs.Nodup := (List.mergeSort_perm xs leI).nodup_iff
theorem lt_of_le_nodup' {xs : List Int} (h : xs.Pairwise (· ≤ ·)) (d : xs.Nodup) : xs.Pairwise (· < ·) := by
  induction xs with
  | nil => exact List.Pairwise.nil
  | cons x xs ih =>
    obtain ⟨h1, h2⟩ := List.pairwise_cons.mp h
    obtain ⟨d1, d2⟩ := List.nodup_cons.mp d
    refine List.pairwise_cons.mpr ⟨fun y hy => ?_, ih h2 d2⟩
    have := h1 y hy
    have : x ≠ y := fun e => d1 (e ▸ hy)
    omega
theorem ms_lt {xs : List Int} (d : xs.Nodup) : (xs.mergeSort leI).Pairwise (· < ·) := lt_of_le_nodup' (ms_le xs) (ms_nodup.mpr d)
theorem lt_nodup {xs : List Int} (h : xs.Pairwise (· < ·)) : xs.Nodup := h.imp fun h => by omega
theorem ms_of_lt {xs : List Int} (h : xs.Pairwise (· < ·)) : xs.mergeSort leI = xs := lt_unique (ms_lt (lt_nodup h)) h fun _ => mem_ms
end Mir
namespace Mir
open PySem L2

/-! ### sorted of a dict whose keys are tuples -/
section
open PySem.Spec PyProof.Rows
variable {X : Cx}
def rSortKeysT (K : PySem.W.Frag) : List V → Hp → VK → Prop := fun vs H Q => ∃ (a : Addr) (kvs : List (List Key × V)), vs = [.ref a] ∧ H a = some (.dT kvs) ∧
  ∀ as : List Addr, Paired (fun (b : Addr) (kv : List Key × V) => H b = some (.tup (kv.1.map kV))) as kvs →
  ∃ bs : List (V × PyData), bs.map (·.1) = as.map V.ref ∧ (∀ b ∈ bs, Dp K H b.1 b.2) ∧ PySem.W.AllAlike (bs.map (·.2)) ∧ PySem.W.Sortable (bs.map (·.2)) ∧ (∀ b ∈ bs, b.2.depth ≤ 64) ∧
  ∀ p, H p = none → Q (.ref p) (upd H p (.lst ((bs.mergeSort (PySem.W.dataLe false (·.2))).map (·.1))))
theorem cr_sortKeysT (hcalm : X.calm = true) (hu : X.A.units + 70 < cLine) : CallR X (.builtin "sorted") (rSortKeysT X.K) := by
  intro pins s σ H xs us Q I r h
  obtain ⟨a, kvs, rfl, hk0, h⟩ := h
  obtain ⟨u, eu, rx⟩ := vals1 r
  subst eu
  obtain rfl : u = Value.ref a := rx
  have hok := I.hok a _ hk0
  unfold L2.ObjOk at hok
  obtain ⟨z, lo, xs, rk, o, es, ep, ho, hxd, hod, hes, hnd⟩ := hok
  have hpa : Paired (fun (b : Addr) (kv : List Key × V) => H b = some (.tup (kv.1.map kV))) (xs.map fun x => x.2.1) kvs := by
    clear hk0 h hes hnd z
    induction rk with
    | nil => exact .nil
    | cons r t ih => exact .cons r.2.1 ih
  obtain ⟨bs, hbs, hd, hal, hk, hdep, q⟩ := h _ hpa
  have hl : kvs.length = xs.length := Paired.length rk
  have hbl : bs.length = kvs.length := by
    have := congrArg List.length hbs
    rw [List.length_map, List.length_map, List.length_map] at this
    omega
  have hel : es.size = kvs.length := by
    have := congrArg List.length hes
    rw [List.length_map] at this
    rw [hl, ← this]
    simp
  refine Calls.call_function_entry PyProof.Rows.kind_sorted PyProof.Rows.plain_sorted PyProof.Rows.entry_sorted (PyProof.Rows.args_sorted1 _) ?_
  unfold Builtin.«sorted»
  refine wpAny_bind (m := checkCount "sorted" 1 1 _) (wpAny_pure ?_)
  refine wpAny_bind (PySem.W.kdu_collect (A := X.A.in1) (kdl_raw lo hxd hod) (I.ok.hd hcalm) ho (by rw [hel]; exact z) fun h' tk acc hkeep hacc => ?_)
  have rv : Vals (bs.map (·.1)) acc.toList := by
    have el : acc.toList.length = acc.size := by simp
    rw [hbs]
    refine vals_of_at (by rw [List.length_map, List.length_map, el, hacc.1, hel, hl]) fun j x w h1 h2 => ?_
    obtain ⟨en, he1, he2⟩ := hacc.2 j w (by rw [← Array.getElem?_toList]; exact h2)
    rw [← Array.getElem?_toList, hes, List.getElem?_map] at he1
    rw [List.map_map, List.getElem?_map] at h1
    cases hx : xs[j]? with
    | none => rw [hx] at h1; cases h1
    | some y =>
      rw [hx] at h1 he1
      cases h1
      cases he1
      rw [he2]
      rfl
  have hal2 : acc.toList.length = bs.length := by rw [← rv.length, List.length_map]
  have I1 : Inv X pins σ H { s with heap := h', toks := tk } := I.kept hkeep
  have er : PySem.W.EachIs (fun u (b : V × PyData) => ∃ as, Reads h' u b.2 as) acc.toList bs := each_reads I1 hd rv
  refine wpAny_bind (wpAny_newList ?_ (by rw [hal2, hbl]; exact z))
  have hoL : (h'.push (seqObj "list" acc.toList.toArray 0)).get? h'.objs.size = some (seqObj "list" acc.toList.toArray 0) := Heap.get?_push_size _ rfl
  show wpAny _ _ _ _ _ { s with heap := h'.push (seqObj "list" acc.toList.toArray 0), toks := tk }
  have keep : ∀ b o, h'.get? b = some o → (PySem.W.sortingHeap (h'.push (seqObj "list" acc.toList.toArray 0)) h'.objs.size acc.toList).get? b = some o := fun b o e => by
    have hb : b < h'.objs.size := Heap.lt_size e
    exact PySem.W.sortingHeap_old (Nat.ne_of_lt hb) (Heap.get?_push_of_some _ e)
  have er' : PySem.W.EachIs (fun u (b : V × PyData) => ∃ as, Reads (PySem.W.sortingHeap (h'.push (seqObj "list" acc.toList.toArray 0)) h'.objs.size acc.toList) u b.2 as) acc.toList bs := er.mono fun _ _ ⟨as, r⟩ => ⟨as, PyProof.Rows.Reads.keeps keep r⟩
  refine wpAny_bind (wpAny_holding (wpAny_call_entry PyProof.Rows.slot_list_sort ⟨_, hoL, rfl⟩ PyProof.Rows.entry_list_sort
    (PySem.W.list_sort_vals (κ := PySem.W.dataKind (PySem.W.sortingHeap (h'.push (seqObj "list" acc.toList.toArray 0)) h'.objs.size acc.toList) (bs.map (·.2))) (s := { s with heap := h'.push (seqObj "list" acc.toList.toArray 0), toks := tk }) hoL
      (PySem.W.SortsAt.data (s := { s with heap := PySem.W.sortingHeap (h'.push (seqObj "list" acc.toList.toArray 0)) h'.objs.size acc.toList, toks := tk }) (PySem.W.each_map (R := fun v d => ∃ as, Reads (PySem.W.sortingHeap (h'.push (seqObj "list" acc.toList.toArray 0)) h'.objs.size acc.toList) v d as) (fun b : V × PyData => b.2) er') hal hk ?_) (by rw [hal2, hbl]; exact z) ⟨.none, rfl, ?_⟩) (PyProof.Rows.args_list_sort _)))
  · intro x hx
    obtain ⟨b, hb, rfl⟩ := List.mem_map.mp hx
    have := hdep b hb
    show X.A.units + 1 + 1 + b.2.depth < cLine
    omega
  generalize eo : PySem.W.sortVals (PySem.W.dataKind (PySem.W.sortingHeap (h'.push (seqObj "list" acc.toList.toArray 0)) h'.objs.size acc.toList) (bs.map (·.2))) false acc.toList acc.toList = out
  have e2 : PySem.W.EachIs (fun u (b : V × PyData) => RelV b.1 u) out (bs.mergeSort (PySem.W.dataLe false (·.2))) := by
    rw [← eo]
    exact PySem.W.sortVals_data false (each_of rv) er' hal
  have hv := of_each e2
  obtain ⟨e', he'⟩ := PyProof.Rows.sortedHeap_at (vs := acc.toList) (out := out.toArray) hoL
  have hlen : ((bs.mergeSort (PySem.W.dataLe false (·.2))).map (·.1)).length ≤ sizeLine := by
    rw [List.length_map, List.length_mergeSort, hbl]; exact z
  refine wpAny_pure ⟨_, rfl, .ref h'.objs.size, upd H h'.objs.size (.lst ((bs.mergeSort (PySem.W.dataLe false (·.2))).map (·.1))), I1.laid (t' := tk) (fun b u e => ?_) (Nat.le_refl _)
    (show ObjOk X.prog X.w _ _ _ (.lst ((bs.mergeSort (PySem.W.dataLe false (·.2))).map (·.1))) from ⟨hlen, out, e', hv, he'⟩), rfl, q _ (I1.hok.fresh (Nat.le_refl _))⟩
  have hb : b < h'.objs.size := Heap.lt_size e
  rw [PyProof.Rows.sortedHeap_old (Nat.ne_of_lt hb) (by rw [size_push']; exact Nat.lt_succ_of_lt hb)]
  exact Heap.get?_push_of_some _ e
end
section
variable {K : PySem.W.Frag} {F F0 B H : Hp} {L : Ow} {ρ : Env} {σ : L2.St} {vs : List V} {ds : List Sl}
noncomputable def withTups (F H : Hp) : Hp := fun a => match F a with
  | some o => some o
  | none => match H a with
    | some (.tup us) => some (.tup us)
    | _ => none
theorem wt_same : Same F (withTups F H) := fun a o e => by unfold withTups; rw [e]
theorem Ok.tups (k : Ok K B F0 F H L) : Ok K B F0 (withTups F H) H L where
  up := k.up.trans wt_same
  le := fun a o e => by
    unfold withTups at e
    split at e
    · rename_i h; rw [k.le _ _ h]; exact e
    · split at e
      · rename_i h; rw [h]; exact e
      · cases e
  amb := k.amb
  new := fun a o e => by
    unfold withTups at e
    split at e
    · rename_i h; cases e; exact k.new _ _ h
    · split at e
      · cases e; exact .inr (.inr trivial)
      · cases e
  sz := k.sz
  own := fun p hp => by
    obtain ⟨a, b, r⟩ := k.own p hp
    refine ⟨?_, b, r.mono wt_same rfl⟩
    obtain ⟨o, e, n⟩ := r.there
    unfold withTups
    rw [a, e]
    cases o <;> first | rfl | exact (n trivial).elim
  nd := k.nd
theorem St.tups (h : St K B F0 ρ L σ H vs ds) : ∃ F, Ok K B F0 F H L ∧ Paired (SlR K F) σ ρ ∧ Paired (SvR K F) vs ds ∧ ∀ a us, H a = some (.tup us) → F a = some (.tup us) := by
  obtain ⟨F, ok, sl, sv⟩ := h
  refine ⟨_, ok.tups, sls_mono wt_same sl, svs_mono wt_same sv, fun a us e => ?_⟩
  unfold withTups
  cases hF : F a with
  | none => simp [e]
  | some o =>
    have := ok.le _ _ hF
    rw [e] at this
    cases this
    rfl
theorem rps_kV : ∀ (ks : List Key), Rps F (ks.map kV) (ks.map kD)
  | [] => .nil
  | .inl i :: ks => .cons (.int i) (rps_kV ks)
  | .inr x :: ks => .cons (.str x) (rps_kV ks)
end
section
variable {X : Cx} {ν κ : Type} {o e : Expr} {ρ : Env} {L : Ow} {p pos : Pos} {n : Nat} {dv : ν → PyData} {dk : κ → PyData}
theorem dt_refs {K : PySem.W.Frag} {F H : Hp} {f : κ → List Key} (ky : Ky kTD dk f) (hF : ∀ a us, H a = some (.tup us) → F a = some (.tup us)) : ∀ {kvs : List (κ × ν)} {ws : List (List Key × V)} {as : List Addr}, DTR K F ws (kvs.map (encK dk dv)) →
    Paired (fun (b : Addr) (kv : List Key × V) => H b = some (.tup (kv.1.map kV))) as ws → Paired (fun v d => Rp F v d) (as.map V.ref) ((kvs.map (·.1)).map dk)
  | [], _, _, h, h2 => by cases h; cases h2; exact .nil
  | kv :: kvs, _, _, h, h2 => by
    cases h with
    | @cons x _ _ _ r t =>
      cases h2 with
      | @cons a _ _ _ r2 t2 =>
        refine .cons ?_ (dt_refs ky hF t t2)
        have e : dk kv.1 = kTD x.1 := r.1
        show Rp F (V.ref a) (dk kv.1)
        rw [e]
        exact .tup (hF _ _ r2) (rps_kV _)
/-- the keys of a dict with tuples for keys, sorted -/
theorem n_sortedDT {le : κ → κ → Bool} {f : κ → List Key} {a : Addr} {kvs : List (κ × ν)} (j : Nat) (ky : Ky kTD dk f) (hd : Srt dk le) (hc : X.calm = true) (hr : Room n X.A) (hL : L[j]? = some (a, odK true dk dv kvs)) (ho : ES X o ρ L (some (.ptr a))) (hm : X.mg "sorted" = none) (hk2 : SrtK dk := by first | exact srk_pair | exact srk_int) (hs : starEach [o] X.env = (false, eval o X.env) :: starEach [] X.env := by rfl)
    (hh : X.mg "sorted" = none → ∀ {ta}, PE X o ta → X.A.units + 70 < cLine → PE X (.Call (.Name "sorted" p) [o] [] pos) (tCB (rSortKeysT X.K) (tCons ta tNil)) := by intro hm _ h hu; exact pe_callB (cr_sortKeysT rfl hu) (by rfl) hm (by decide +kernel) (pa_cons h pa_nil)) :
    EN X dk (.Call (.Name "sorted" p) [o] [] pos) ρ L (some ((kvs.map (·.1)).mergeSort le)) := by
  obtain ⟨t, p, h⟩ := ho
  refine ⟨_, hh hm p (by have := hr.un; omega), fun z hz B F0 σ H vs ds Q s k => ?_⟩
  cases hz
  refine h _ rfl B F0 σ H vs ds _ s fun v H1 s1 => ?_
  have e := s1.isPtr
  subst e
  obtain ⟨F, ok, sl, sv, hF⟩ := s1.pop.tups
  obtain ⟨ws, h1, h2⟩ := ok.at_ hL
  refine ⟨a, ws, rfl, h1, fun as has => ?_⟩
  have rp := dt_refs ky hF h2 has
  generalize hus : as.map V.ref = us at rp
  generalize hxs : kvs.map (·.1) = xs at rp
  have h3 : us.length = (xs.map dk).length := Paired.length rp
  have e1 : (us.zip (xs.map dk)).map (·.1) = us := zip_fst h3
  have e2 : (us.zip (xs.map dk)).map (·.2) = xs.map dk := zip_snd h3
  refine ⟨us.zip (xs.map dk), by rw [e1], fun b hb => Rp.dp ok.le _ _ (by
    have hb2 : b.2 ∈ xs.map dk := by rw [← e2]; exact List.mem_map_of_mem hb
    obtain ⟨x', _, e⟩ := List.mem_map.mp hb2
    rw [← e]
    exact nod_of_alike _ (hd.ali x' x')) (zip_mem rp b hb), ?_, ?_, fun b hb => ?_, fun p hp => ?_⟩
  · rw [e2]
    intro x hx y hy
    obtain ⟨x', _, rfl⟩ := List.mem_map.mp hx
    obtain ⟨y', _, rfl⟩ := List.mem_map.mp hy
    exact hd.ali x' y'
  · rw [e2]
    rcases hk2 with h | h
    · exact .inl fun x hx => by obtain ⟨x', _, rfl⟩ := List.mem_map.mp hx; exact h x'
    · exact .inr fun x hx => by obtain ⟨x', _, rfl⟩ := List.mem_map.mp hx; exact h x'
  · have : b.2 ∈ xs.map dk := by rw [← e2]; exact List.mem_map_of_mem hb
    obtain ⟨x', _, e⟩ := List.mem_map.mp this
    rw [← e]
    exact hd.dep x'
  · have e3 : ((us.zip (xs.map dk)).mergeSort (PySem.W.dataLe false (·.2))).map (·.2) = (xs.mergeSort le).map dk := by
      refine Eq.trans (PySem.W.sort_maps (r := PySem.W.dataLe false (fun b : V × PyData => b.2)) (s := PySem.W.dataLe false (fun x : PyData => x)) (fun b : V × PyData => b.2) (fun _ _ _ _ => rfl)) ?_
      rw [e2, ← hd.le]
      exact (PySem.W.sort_maps (r := PySem.W.dataLe false dk) (s := PySem.W.dataLe false (fun x : PyData => x)) dk (fun _ _ _ _ => rfl)).symm
    have pz := of_zip (R := fun (v : V) (x : PyData) => Rp F v x) (bs := (us.zip (xs.map dk)).mergeSort (PySem.W.dataLe false (·.2))) fun q hq => zip_mem rp q ((List.mergeSort_perm _ _).mem_iff.mp hq)
    rw [e3] at pz
    have hlen : (((us.zip (xs.map dk)).mergeSort (PySem.W.dataLe false (·.2))).map (·.1)).length = us.length := by
      rw [List.length_map, List.length_mergeSort, List.length_zip, ← h3, Nat.min_self]
    have hz := ok.sz _ _ h1
    have hl : ws.length = kvs.length := by rw [Paired.length h2, List.length_map]
    refine k p _ (St.newLst (us := ((us.zip (xs.map dk)).mergeSort (PySem.W.dataLe false (·.2))).map (·.1)) ?_ ?_ hp (by rw [hlen, h3, List.length_map, ← hxs, List.length_map, ← hl]; exact hz))
    · rw [hxs]; exact ⟨F, ok, sl, pr_app (dats_of (Rps.of pz)) sv⟩
    · rw [hlen, h3, hxs]; simp
end

/-! ### xs[:0:-1] of a list -/
theorem pick_rev0 (xs : Array Value) : PySem.slicePick xs none (some 0) (some (-1)) = (xs.toList.drop 1).reverse.toArray := by
  unfold PySem.slicePick
  congr 1
  obtain ⟨l⟩ := xs
  cases l with
  | nil => rfl
  | cons x t =>
    have e : PySem.sliceRange (PySem.sliceBounds none (some 0) (some (-1)) (Array.mk (x :: t)).size).fst (PySem.sliceBounds none (some 0) (some (-1)) (Array.mk (x :: t)).size).snd.fst (PySem.sliceBounds none (some 0) (some (-1)) (Array.mk (x :: t)).size).snd.snd = ((List.range t.length).reverse).map fun k => k + 1 := by
      have hs : (Array.mk (x :: t)).size = t.length + 1 := rfl
      rw [hs]
      have eb : PySem.sliceBounds none (some 0) (some (-1)) (t.length + 1) = ((t.length : Int), 0, -1) := by
        unfold PySem.sliceBounds
        simp only [Option.getD_some]
        have h1 : ¬ ((-1 : Int) > 0) := by decide
        rw [if_neg h1]
        refine Prod.ext ?_ (Prod.ext ?_ rfl)
        · show ((t.length + 1 : Nat) : Int) - 1 = t.length
          omega
        · show (if (-1 : Int) > 0 then max 0 (min (if (0 : Int) < 0 then 0 + ((t.length + 1 : Nat) : Int) else 0) ((t.length + 1 : Nat) : Int)) else max (-1) (min (if (0 : Int) < 0 then 0 + ((t.length + 1 : Nat) : Int) else 0) (((t.length + 1 : Nat) : Int) - 1))) = 0
          rw [if_neg h1, if_neg (by decide)]
          omega
      rw [eb]
      show PySem.sliceRange (t.length : Int) 0 (-1) = _
      unfold PySem.sliceRange
      have h1 : ¬ ((-1 : Int) > 0) := by decide
      simp only [if_neg h1]
      have hc : (if (t.length : Int) > 0 then ((t.length : Int) - 0 - -1 - 1) / - -1 else 0).toNat = t.length := by
        rw [Int.neg_neg, Int.ediv_one]
        split <;> omega
      rw [hc, ← PySem.W.krv_range, List.map_map]
      refine List.map_congr_left fun k hk => ?_
      have := List.mem_range.mp hk
      show ((t.length : Int) + -1 * (k : Int)).toNat = t.length - 1 - k + 1
      omega
    rw [e, List.filterMap_map]
    have e3 : (List.filterMap ((fun i => (Array.mk (x :: t))[i]?) ∘ fun k => k + 1) (List.range t.length).reverse) = t.reverse := by
      have e4 : ((fun i => (Array.mk (x :: t))[i]?) ∘ fun k => k + 1) = fun k => (Array.mk t)[k]? := by
        funext k
        show (Array.mk (x :: t))[k + 1]? = (Array.mk t)[k]?
        simp
      rw [e4, List.filterMap_reverse]
      have := PySem.W.krv_all (Array.mk t)
      rw [show (Array.mk t).size = t.length from rfl] at this
      rw [this]
    rw [e3]
    rfl
open PySem.Spec PyProof.Rows in
def tRevL0 (K : PySem.W.Frag) (te : TE) : TE := fun σ H Q => te σ H fun x H1 => ∃ a xs, x = .ref a ∧ SqL K H1 a xs ∧ ∀ p, H1 p = none → Q (.ref p) (upd H1 p (.lst (xs.drop 1).reverse))
open PySem.Spec PyProof.Rows in
theorem pe_revL0 {X : Cx} {e : Expr} {te : TE} {k k0 : Nat} {p1 p2 p3 p0 pos : Pos} (he : PE X e te) : PE X (.Subscript e (.Slice none (some (.Constant (.int 0) k0 p0)) (some (.UnaryOp .USub (.Constant (.int 1) k p1) p2)) p3) pos) (tRevL0 X.K te) := by
  refine ⟨fun pins s σ H Q I h => ?_⟩
  refine Subscript_ (thn (he.run pins s σ H _ I h) fun v s1 ⟨x, H1, I1, r1, q1⟩ => ?_)
  obtain ⟨a, xs, ex, hx, q⟩ := q1
  subst ex
  cases r1
  have hst : PO X (some (.UnaryOp .USub (.Constant (.int 1) k p1) p2)) (tPart (tUn (rU fun i => .int (-i)) (tC (.int 1)))) := po_some (pe_un un_neg pe_int)
  have hs0 : PO X (some (.Constant (.int 0) k0 p0)) (tPart (tC (.int 0))) := po_some pe_int
  refine wpAny_Slice (thn (po_none.run pins s1 σ H1 (fun o H2 => o = none ∧ H2 = H1) I1 ⟨rfl, rfl⟩) fun vl s2 ⟨l, H2, I2, pl, el, e2⟩ => ?_)
  subst el e2
  refine thn (hs0.run pins s2 σ H2 (fun o H3 => o = some 0 ∧ H3 = H2) I2 ⟨0, rfl, rfl, rfl⟩) fun vu s3 ⟨u, H3, I3, pu, eu, e3⟩ => ?_
  subst eu e3
  refine thn (hst.run pins s3 σ H3 (fun o H4 => o = some (-1) ∧ H4 = H3) I3 ⟨1, rfl, -1, rfl, rfl, rfl⟩) fun vs s4 ⟨o, H4, I4, ps, eo, e4⟩ => ?_
  subst eo e4
  have I5 : Inv X pins σ H4 { s4 with heap := s4.heap.push { cls := .type "slice", data := .fields #[vl, vu, vs] } } := I4.kept (t' := s4.toks) fun b ob q => Heap.get?_push_of_some _ q
  obtain ⟨its, r, pt, hz⟩ := I5.list hx
  have ht := pt.isList
  have hlen := r.length
  show wpAny (model X.prog X.w) X.A (subscriptTail e (.Slice none (some (.Constant (.int 0) k0 p0)) (some (.UnaryOp .USub (.Constant (.int 1) k p1) p2)) p3) (.ref a) (.ref s4.heap.objs.size)) (EP X pins σ Q) X.xe { s4 with heap := s4.heap.push { cls := .type "slice", data := .fields #[vl, vu, vs] } }
  refine tail_any (ops := [.ref a, .ref s4.heap.objs.size]) ht.typeIs PySem.slot_list_getitem.lookup ?_ (by with_unfolding_all rfl)
  refine PySem.wpAny_getItem_list_slice ht (Heap.IsSliceOf.new _ vl vu vs) pl pu ps (by decide) ?_ (by rw [List.size_toArray]; omega)
  rw [pick_rev0]
  refine ⟨.ref _, _, I5.laid (t' := s4.toks) (o := .lst (xs.drop 1).reverse) (fun b ob q => Heap.get?_push_of_some _ q) (Nat.le_refl _) ?_, rfl, q _ (I5.hok.fresh (Nat.le_refl _))⟩
  refine ⟨by rw [List.length_reverse, List.length_drop]; omega, (its.drop 1).reverse, 0, (r.drop 1).reverse, ?_⟩
  exact Heap.get?_push_size _ rfl
theorem n_revs0 {X : Cx} {α : Type} {e : Expr} {ρ : Env} {L : Ow} {pos : Pos} {d : α → PyData} {o : Option (List α)} {k k0 : Nat} {p0 p1 p2 p3 : Pos} (h : QL X d e ρ L o) : EN X d (.Subscript e (.Slice none (some (.Constant (.int 0) k0 p0)) (some (.UnaryOp .USub (.Constant (.int 1) k p1) p2)) p3) pos) ρ L (o.map fun xs => (xs.drop 1).reverse) := by
  obtain ⟨t, p, h⟩ := h
  refine ⟨_, pe_revL0 p, fun z hz B F0 σ H vs ds Q s k => ?_⟩
  obtain ⟨xs, hx, rfl⟩ := Option.map_eq_some_iff.mp hz
  refine h xs hx B F0 σ H vs ds _ s fun v sl H1 q s1 => ?_
  obtain ⟨a, us, rfl, h1, h2, h4, h3⟩ := s1.lstOf q
  refine ⟨a, us, rfl, SqL.of h1, fun p hp => k _ _ ?_⟩
  refine St.newLst (us := (us.drop 1).reverse) ?_ (by rw [List.length_reverse, List.length_map, List.length_map, List.length_reverse, List.length_drop, List.length_drop, h2, List.length_map]) hp (by rw [List.length_reverse, List.length_drop]; omega)
  refine h3.stack fun F r => ?_
  obtain ⟨r1, r2⟩ := pr_split (by rw [List.length_map]; exact h2) r
  rw [List.map_reverse, List.map_reverse, List.map_drop, List.map_drop]
  exact pr_app (pr_rev (pr_drop 1 r1)) (by cases r2 with | cons _ t => exact t)
end Mir
namespace Mir
open PySem L2
section
variable {X : Cx} {α β γ S : Type} {a b c e o o' i i' : Expr} {ρ ρ' : Env} {L : Ow} {pos px py pz pt pt2 tp1 tp2 : Pos} {kt k2 : Nat} {d : α → PyData} {d' : β → PyData} {f : γ → PyData} {oa : Option α} {ob : Option β} {x y z : Str} {rest : List Stmt} {δ : Type} {oc : δ → Oc} {p p' : Addr}
/-- x, y = two new owned objects -/
theorem b_parOO {oda : α → OD} {odb : β → OD} {k : α → β → Option δ} (i j : Nat) (hc : X.calm = true) (hN : X.N.Nodup) (ha : EO X oda a ρ L oa) (hb : ∀ p u, EO X odb b ρ (L ++ [(p, oda u)]) ob)
    (hr : ∀ p u q v, BX X rest ((ρ.set i (some (.ptr p))).set j (some (.ptr q))) ((L ++ [(p, oda u)]) ++ [(q, odb v)]) (k u v) oc) (hij : i ≠ j := by decide) (hi : X.N[i]? = some x := by rfl) (hj : X.N[j]? = some y := by rfl)
    (hx : X.env.scope.names.lookup x = some .local := by rfl) (hy : X.env.scope.names.lookup y = some .local := by rfl) (h1 : starEach [a, b] X.env = (false, eval a X.env) :: starEach [b] X.env := by rfl) (h2 : starEach [b] X.env = (false, eval b X.env) :: starEach [] X.env := by rfl)
    (hw : swappedStores [.Tuple [.Name x px, .Name y py] kt pt] (.Tuple [a, b] k2 pt2) X.env = pure (some [x, y]) := by rfl)
    (hs : swapsWithSole [.Tuple [.Name x px, .Name y py] kt pt] (.Tuple [a, b] k2 pt2) pos.line X.env = pure false := by rfl) :
    BX X (.Assign [.Tuple [.Name x px, .Name y py] kt pt] (.Tuple [a, b] k2 pt2) pos :: rest) ρ L (oa.bind fun u => ob.bind fun v => k u v) oc := by
  obtain ⟨ta, pa, ha⟩ := ha
  obtain ⟨tb, pb, hb⟩ : ∃ tb, PE X b tb ∧ ∀ p u v, ob = some v → ∀ B F0 σ H vs ds Q, St X.K B F0 ρ (L ++ [(p, oda u)]) σ H vs ds → (∀ q H', St X.K B F0 ρ ((L ++ [(p, oda u)]) ++ [(q, odb v)]) σ H' (.ref q :: vs) (.ptr q :: ds) → Q (.ref q) H') → tb σ H Q := by
    refine ⟨fun σ H Q => ∃ p u v B F0 vs ds, ob = some v ∧ St X.K B F0 ρ (L ++ [(p, oda u)]) σ H vs ds ∧ ∀ q H', St X.K B F0 ρ ((L ++ [(p, oda u)]) ++ [(q, odb v)]) σ H' (.ref q :: vs) (.ptr q :: ds) → Q (.ref q) H', ⟨fun pins s σ H Q I h => ?_⟩, fun p u v e B F0 σ H vs ds Q s k => ⟨p, u, v, B, F0, vs, ds, e, s, k⟩⟩
    obtain ⟨p, u, v, B, F0, vs, ds, e, st, k⟩ := h
    obtain ⟨tb, pb, hb⟩ := hb p u
    exact pb.run pins s σ H Q I (hb v e B F0 σ H vs ds Q st k)
  obtain ⟨t', p', hr⟩ := BX.all (S := Addr × α × Addr × β) (ρf := fun q => (ρ.set i (some (.ptr q.1))).set j (some (.ptr q.2.2.1))) (Lf := fun q => (L ++ [(q.1, oda q.2.1)]) ++ [(q.2.2.1, odb q.2.2.2)]) (k := fun q => k q.2.1 q.2.2.2) (fun q => hr q.1 q.2.1 q.2.2.1 q.2.2.2)
  refine ⟨_, pss_cons (ps_par hc hN hi hj hij hx hy (pa_cons pa (pa_cons pb pa_nil h2) h1) hw hs) p', fun q hq B F0 σ H vs ds D s g => ?_⟩
  obtain ⟨u, hu, hq⟩ := Option.bind_eq_some_iff.mp hq
  obtain ⟨v, hv, hq⟩ := Option.bind_eq_some_iff.mp hq
  refine ha u hu B F0 σ H vs ds _ s fun p1 H1 s1 => hb p1 u v hv B F0 σ H1 _ _ _ s1 fun q1 H2 s2 => ⟨.ref p1, .ref q1, rfl, hr (p1, u, q1, v) q hq B F0 _ _ vs ds D ?_ g⟩
  exact St.store j (St.store i s2.swap)
/-- x, y = a, a new owned object -/
theorem b_parDO {odb : β → OD} {k : α → β → Option δ} (i j : Nat) (hc : X.calm = true) (hN : X.N.Nodup) (ha : EX X d a ρ L oa) (hb : EO X odb b ρ L ob) (hr : ∀ u q v, BX X rest ((ρ.set i (some (.dat (d u)))).set j (some (.ptr q))) (L ++ [(q, odb v)]) (k u v) oc) (hij : i ≠ j := by decide) (hi : X.N[i]? = some x := by rfl) (hj : X.N[j]? = some y := by rfl)
    (hx : X.env.scope.names.lookup x = some .local := by rfl) (hy : X.env.scope.names.lookup y = some .local := by rfl) (h1 : starEach [a, b] X.env = (false, eval a X.env) :: starEach [b] X.env := by rfl) (h2 : starEach [b] X.env = (false, eval b X.env) :: starEach [] X.env := by rfl)
    (hw : swappedStores [.Tuple [.Name x px, .Name y py] kt pt] (.Tuple [a, b] k2 pt2) X.env = pure (some [x, y]) := by rfl)
    (hs : swapsWithSole [.Tuple [.Name x px, .Name y py] kt pt] (.Tuple [a, b] k2 pt2) pos.line X.env = pure false := by rfl) :
    BX X (.Assign [.Tuple [.Name x px, .Name y py] kt pt] (.Tuple [a, b] k2 pt2) pos :: rest) ρ L (oa.bind fun u => ob.bind fun v => k u v) oc := by
  obtain ⟨ta, pa, ha⟩ := ha
  obtain ⟨tb, pb, hb⟩ := hb
  obtain ⟨t', p', hr⟩ := BX.all (S := α × Addr × β) (ρf := fun q => (ρ.set i (some (.dat (d q.1)))).set j (some (.ptr q.2.1))) (Lf := fun q => L ++ [(q.2.1, odb q.2.2)]) (k := fun q => k q.1 q.2.2) (fun q => hr q.1 q.2.1 q.2.2)
  refine ⟨_, pss_cons (ps_par hc hN hi hj hij hx hy (pa_cons pa (pa_cons pb pa_nil h2) h1) hw hs) p', fun q hq B F0 σ H vs ds D s g => ?_⟩
  obtain ⟨u, hu, hq⟩ := Option.bind_eq_some_iff.mp hq
  obtain ⟨v, hv, hq⟩ := Option.bind_eq_some_iff.mp hq
  refine ha u hu B F0 σ H vs ds _ s fun x1 H1 s1 => hb v hv B F0 σ H1 _ _ _ s1 fun q1 H2 s2 => ⟨x1, .ref q1, rfl, hr (u, q1, v) q hq B F0 _ _ vs ds D ?_ g⟩
  exact St.store j (St.store i s2.swap)
/-- o[i], o'[i'] = a, b of owned lists -/
theorem s_setI2 {xs : List α} {ys : List α → List β} {oi : Option Int} {oi' : List α → Option Int} (j j' : Nat) (hc : X.calm = true) (hL : L[j]? = some (p, odL d xs)) (hL2 : ∀ z, (L.set j (p, odL d z))[j']? = some (p', odL d' (ys z))) (ho : ES X o ρ L (some (.ptr p))) (hi : EX X dI i ρ L oi)
    (ho2 : ∀ z, ES X o' ρ (L.set j (p, odL d z)) (some (.ptr p'))) (hi2 : ∀ z, EX X dI i' ρ (L.set j (p, odL d z)) (oi' z)) (ha : EX X d a ρ L oa) (hb : EX X d' b ρ L ob)
    (h1 : starEach [a, b] X.env = (false, eval a X.env) :: starEach [b] X.env := by rfl) (h2 : starEach [b] X.env = (false, eval b X.env) :: starEach [] X.env := by rfl)
    (hs : swapsWithSole [.Tuple [.Subscript o i tp1, .Subscript o' i' tp2] kt pt] (.Tuple [a, b] k2 pt2) pos.line X.env = pure false := by rfl)
    (hw : swappedStores [.Tuple [.Subscript o i tp1, .Subscript o' i' tp2] kt pt] (.Tuple [a, b] k2 pt2) X.env = pure none := by rfl)
    (hh : ∀ {to ti to' ti'}, X.calm = true → PE X o to → PE X i ti → PE X o' to' → PE X i' ti' → PG X (.Tuple [.Subscript o i tp1, .Subscript o' i' tp2] kt pt) (gTup X.K 2 (gCons (gSub to ti rSetL) (gCons (gSub to' ti' rSetL) gNil))) := by
      intro _ _ _ _ hc h1 h2 h3 h4; exact pg_tup hc (pgs_cons (pg_sub h1 h2 set_list) (pgs_cons (pg_sub h3 h4 set_list) pgs_nil)))
    (h3 : (assignEach [.Tuple [.Subscript o i tp1, .Subscript o' i' tp2] kt pt] X.env).map (·.2) = [assign (.Tuple [.Subscript o i tp1, .Subscript o' i' tp2] kt pt) X.env] := by rfl) :
    SX X (.Assign [.Tuple [.Subscript o i tp1, .Subscript o' i' tp2] kt pt] (.Tuple [a, b] k2 pt2) pos) ρ L
      (oa.bind fun u => ob.bind fun v => oi.bind fun n => (setO xs n u).bind fun z => (oi' z).bind fun m => (setO (ys z) m v).map fun w => (z, w))
      (ocn fun q => (ρ, (L.set j (p, odL d q.1)).set j' (p', odL d' q.2))) := by
  obtain ⟨tp, pp, hp⟩ := x_pair (k := k2) (pos := pt2) ha hb h1 h2
  obtain ⟨to, po, ho⟩ := ho
  obtain ⟨ti, pi, hi⟩ := hi
  obtain ⟨to', po', ho2⟩ : ∃ t, PE X o' t ∧ ∀ z B F0 σ H vs ds Q, St X.K B F0 ρ (L.set j (p, odL d z)) σ H vs ds → (∀ v H', St X.K B F0 ρ (L.set j (p, odL d z)) σ H' (v :: vs) (.ptr p' :: ds) → Q v H') → t σ H Q := by
    refine ⟨fun σ H Q => ∃ z B F0 vs ds, St X.K B F0 ρ (L.set j (p, odL d z)) σ H vs ds ∧ ∀ v H', St X.K B F0 ρ (L.set j (p, odL d z)) σ H' (v :: vs) (.ptr p' :: ds) → Q v H', ⟨fun pins s σ H Q I h => ?_⟩, fun z B F0 σ H vs ds Q s k => ⟨z, B, F0, vs, ds, s, k⟩⟩
    obtain ⟨z, B, F0, vs, ds, st, k⟩ := h
    obtain ⟨t, q, r⟩ := ho2 z
    exact q.run pins s σ H Q I (r _ rfl B F0 σ H vs ds Q st k)
  obtain ⟨ti', pi', hi2⟩ := EX.all (S := List α) (ρf := fun _ => ρ) (Lf := fun z => L.set j (p, odL d z)) (k := oi') hi2
  refine ⟨_, ps_asg pp (hh hc po pi po' pi') hs hw h3, fun q hq B F0 σ H vs ds D s g => ?_⟩
  obtain ⟨u, hu, hq⟩ := Option.bind_eq_some_iff.mp hq
  obtain ⟨v, hv, hq⟩ := Option.bind_eq_some_iff.mp hq
  obtain ⟨n, hn, hq⟩ := Option.bind_eq_some_iff.mp hq
  obtain ⟨z, hz, hq⟩ := Option.bind_eq_some_iff.mp hq
  obtain ⟨m, hm, hq⟩ := Option.bind_eq_some_iff.mp hq
  obtain ⟨w, hw', rfl⟩ := Option.map_eq_some_iff.mp hq
  obtain ⟨n2, hn2, rfl⟩ := Option.map_eq_some_iff.mp hz
  obtain ⟨m2, hm2, rfl⟩ := Option.map_eq_some_iff.mp hw'
  refine hp (u, v) (by rw [hu, hv]; rfl) B F0 σ H vs ds _ s fun r H1 s1 => ?_
  obtain ⟨ad, us, rfl, e1, e2, _, s2⟩ := St.tup1 (xs := [d u, d' v]) s1
  obtain ⟨v1, v2, rfl⟩ : ∃ v1 v2, us = [v1, v2] := by
    match us, e2 with
    | [v1, v2], _ => exact ⟨v1, v2, rfl⟩
  refine ⟨ad, [v1, v2], rfl, SqT.of e1, rfl, v1, [v2], rfl, ?_⟩
  have s3 : St X.K B F0 ρ L σ H1 (v1 :: v2 :: vs) (.dat (d u) :: .dat (d' v) :: ds) := s2.stack fun F r => by
    cases r with | cons r1 t => cases t with | cons r2 t => cases t with | cons _ t => exact .cons r1 (.cons r2 t)
  refine ho _ rfl B F0 σ H1 _ _ _ s3 fun x2 H2 s4 => hi n hn B F0 σ H2 _ _ _ s4 fun y2 H3 s5 => ?_
  have ew := s5.isInt
  have ev := s5.pop.isPtr
  obtain ⟨F, ok, sl, sv⟩ := s5.pop.pop
  obtain ⟨us, g2, g3⟩ := ok.at_ hL
  have hlen : us.length = xs.length := by rw [Paired.length g3, List.length_map, List.length_map]
  have hz := ok.sz _ _ g2
  cases sv with
  | cons r t =>
    refine ⟨p, us, n, n2, ev, ew, g2, by rw [hlen]; exact hn2, v2, [], rfl, ?_⟩
    have s6 : St X.K B F0 ρ (L.set j (p, odL d (xs.set n2 u))) σ (upd H3 p (.lst (us.set n2 v1))) (v2 :: vs) (.dat (d' v) :: ds) := by
      refine ⟨F, ok.put hL (d' := odL d (xs.set n2 u)) (o := .lst (us.set n2 v1)) (by show (us.set n2 v1).length ≤ sizeLine; rw [List.length_set]; exact hz) ⟨_, upd_same, ?_⟩, sl, t⟩
      rw [List.map_set, List.map_set]
      exact pr_set r n2 g3
    refine ho2 _ B F0 σ _ _ _ _ s6 fun x2 H2 s4 => hi2 _ m hm B F0 σ H2 _ _ _ s4 fun y2 H3 s5 => ?_
    have ew := s5.isInt
    have ev := s5.pop.isPtr
    obtain ⟨F, ok, sl, sv⟩ := s5.pop.pop
    obtain ⟨us, g2, g3⟩ := ok.at_ (hL2 _)
    have hlen : us.length = (ys (xs.set n2 u)).length := by rw [Paired.length g3, List.length_map, List.length_map]
    have hz := ok.sz _ _ g2
    cases sv with
    | cons r t =>
      refine ⟨p', us, m, m2, ev, ew, g2, by rw [hlen]; exact hm2, rfl, g _ _ ⟨F, ok.put (hL2 _) (d' := odL d' ((ys (xs.set n2 u)).set m2 v)) (o := .lst (us.set m2 v2)) (by show (us.set m2 v2).length ≤ sizeLine; rw [List.length_set]; exact hz) ⟨_, upd_same, ?_⟩, sl, t⟩⟩
      rw [List.map_set, List.map_set]
      exact pr_set r m2 g3
end

/-! ### {k: v}, k a tuple -/
section
open PySem.Spec PyProof.Rows
def tDispT (K : PySem.W.Frag) (tk tv : TE) : TE := fun σ H Q => ∀ p, H p = none → tk σ (upd H p (.dT [])) fun x H1 => tv σ H1 fun y H2 => H2 p = some (.dT []) ∧ ∃ b ks, x = .ref b ∧ H2 b = some (.tup (ks.map kV)) ∧ Q (.ref p) (upd H2 p (.dT [(ks, y)]))
theorem pe_dispT {X : Cx} {k v : Expr} {pos : Pos} {tk tv : TE} {j : Nat} (hr : Room j X.A) (pk : PE X k tk) (pv : PE X v tv) : PE X (.Dict [some k] [v] pos) (tDispT X.K tk tv) := by
  refine ⟨fun pins s σ H Q I h => ?_⟩
  have ee : eval (.Dict [some k] [v] pos) X.env = (do standAt pos; dictDisplay ((pairTrees [some k] [v] X.env pos).map fun p => (some p.fst, p.snd))) := by
    rw [← zip_pairTrees [some k] [v] X.env pos rfl rfl]
    unfold PySem.eval
    rfl
  rw [ee]
  refine wpAny_bind (wpAny_standAt ?_)
  rw [dictDisplay_pairs _ (by rw [pairTrees.eq_1]; simp) (by rw [pairTrees_length _ _ _ _ rfl rfl]; simp)]
  refine wpAny_bind (wpAny_subDict_any (by rw [pairTrees_length _ _ _ _ rfl rfl]; simp) ?_)
  have hnew : H s.heap.objs.size = none := I.hok.fresh (Nat.le_refl _)
  have I0 : Inv X pins σ (upd H s.heap.objs.size (.dT [])) { s with heap := s.heap.push { cls := .type "dict", data := .dict #[] } } :=
    I.laid (t' := s.toks) (o := .dT []) (fun b u e => Heap.get?_push_of_some _ e) (Nat.le_refl _) (dt_empty s.heap I.big)
  refine thn ((pps_cons pk pv pps_nil).run pins _ σ _ (fun ps H2 => match ps with
    | [(x, y)] => H2 s.heap.objs.size = some (.dT []) ∧ ∃ b ks, x = .ref b ∧ H2 b = some (.tup (ks.map kV)) ∧ Q (.ref s.heap.objs.size) (upd H2 s.heap.objs.size (.dT [(ks, y)]))
    | _ => False) I0 (h _ hnew)) fun vs s2 ⟨ps, H2, I2, rv, q2⟩ => ?_
  cases rv with
  | nil => exact q2.elim
  | @cons p1 p2 ps1 vs1 r r' =>
    cases r' with
    | cons _ _ => exact q2.elim
    | nil =>
      obtain ⟨x, y⟩ := p1
      obtain ⟨ku, vu⟩ := p2
      obtain ⟨hd, b, ks, ex, hb, q⟩ := q2
      obtain ⟨r1, r2⟩ := r
      dsimp only at r1 r2
      subst ex
      obtain rfl : ku = Value.ref b := r1
      obtain ⟨z, lo, xs, kt, dd⟩ := dt_of I2.hok hd
      have exs : xs = [] := by cases kt; rfl
      subst exs
      have huni : X.A.units + 70 < cLine := by have := hr.un; omega
      show wpAny _ _ (forIn [(Value.ref b, vu)] PUnit.unit fun x _ => do dictSet s.heap.objs.size x.1 x.2; pure (ForInStep.yield PUnit.unit)) _ _ _
      rw [List.forIn_cons]
      refine wpAny_bind (wpAny_bind (wpAny_dictSet_heap (knd := tupleKind (mixKind X.prog X.w)) (k := ks) (xs := []) (show X.A.units < cLine by omega) (key_of I2.hok hb) dd (fun h' d1 d2 => wpAny_pure ?_) (by show 0 ≤ _; exact Nat.zero_le _)))
      refine wpAny_pure (wpAny_pure ?_)
      obtain ⟨o, es, ep, g1, g2, g3, g4, g5, g6⟩ := d1
      refine ⟨.ref s.heap.objs.size, _, d_write (ob := .dT [(ks, y)]) I2 (by rw [hd]; trivial) d2 ⟨o, g1⟩ ?_, rfl, q⟩
      unfold L2.ObjOk
      refine ⟨by show 1 ≤ _; exact sz_of (by decide : 1 ≤ 1000), lo, [(ks, b, vu)], .cons ⟨rfl, ?_, r2⟩ .nil, o, es, ep, g1, g2, g3, g4, g6⟩
      have hne : b ≠ s.heap.objs.size := fun e => by rw [e, hd] at hb; cases hb
      show upd H2 s.heap.objs.size (.dT [(ks, y)]) b = _
      rw [upd_ne hne]
      exact hb
theorem e_disp1T {X : Cx} {κ ν : Type} [DecidableEq κ] {k v : Expr} {pos : Pos} {ρ : Env} {L : Ow} {dk : κ → PyData} {dv : ν → PyData} {f : κ → List Key} {ok : Option κ} {ov : Option ν} {j : Nat} (ky : Ky kTD dk f) (hr : Room j X.A) (hk : ∀ M, EX X dk k ρ (L ++ M) ok) (hv : ∀ M, EX X dv v ρ (L ++ M) ov) : EO X (odK true dk dv) (.Dict [some k] [v] pos) ρ L (ok.bind fun i => ov.bind fun x => some [(i, x)]) := by
  obtain ⟨tk, pk, hk⟩ := EX.all (S := Ow) (ρf := fun _ => ρ) (Lf := fun M => L ++ M) (k := fun _ => ok) hk
  obtain ⟨tv, pv, hv⟩ := EX.all (S := Ow) (ρf := fun _ => ρ) (Lf := fun M => L ++ M) (k := fun _ => ov) hv
  refine ⟨_, pe_dispT hr pk pv, fun z hz B F0 σ H vs ds Q s q => ?_⟩
  obtain ⟨i, hi, hz⟩ := Option.bind_eq_some_iff.mp hz
  obtain ⟨x, hx, hz⟩ := Option.bind_eq_some_iff.mp hz
  cases hz
  intro p hp
  have s1 : St X.K B F0 ρ (L ++ [(p, odK true dk dv [])]) σ (upd H p (.dT [])) vs ds := by
    obtain ⟨F, ok, sl, sv⟩ := s
    exact ⟨F, ok.alloc hp (Nat.zero_le _) ⟨[], upd_same, .nil⟩, sl, sv⟩
  refine hk _ i hi B F0 σ _ vs ds _ s1 fun u H1 s2 => hv _ x hx B F0 σ H1 _ _ _ s2 fun w H2 s3 => ?_
  obtain ⟨F, ok, sl, sv⟩ := s3
  cases sv with
  | cons r t =>
    cases t with
    | cons r2 t =>
      have m7 : (L ++ [(p, odK true dk dv [])])[L.length]? = some (p, odK true dk dv []) := by simp
      obtain ⟨ws', h1, h2⟩ := ok.at_ m7
      have e0 : ws' = [] := by
        have h3 := Paired.length h2
        exact List.length_eq_zero_iff.mp h3
      subst e0
      have r2' : Rp F u (kTD (f i)) := by rw [← ky.eq]; exact r2
      obtain ⟨b, rfl, hb⟩ := rp_kTD r2'
      refine ⟨h1, b, f i, rfl, ok.le _ _ hb, q p _ ?_⟩
      have h3 := dr_put (c := kTD) (f := f) (K := X.K) (dv := dv) (fun _ _ => kTD_inj) ky i r h2
      have k2 := Ok.write (L2 := []) (d' := odK true dk dv [(i, x)]) (o := .dT [(f i, w)]) ok (sz_of (by decide : 1 ≤ 1000)) ⟨_, upd_same, h3⟩
      exact ⟨F, k2, sl, .cons rfl t⟩
end
end Mir
namespace Mir
open PySem L2
/-! ### neighbours -/
def nbr (ties : List (Int × Int)) (x : Int) : List Int := ((ties.filter fun t => decide (x ∈ [t.1, t.2])).map fun t => t.1 + t.2 - x).mergeSort leI
structure Web (n : Int) (ties : List (Int × Int)) : Prop where
  rg : ∀ t ∈ ties, 0 ≤ t.1 ∧ t.1 < t.2 ∧ t.2 < n
theorem mem_nbr {ties : List (Int × Int)} {x y : Int} : y ∈ nbr ties x ↔ (x, y) ∈ ties ∨ (y, x) ∈ ties := by
  unfold nbr
  rw [mem_ms, List.mem_map]
  constructor
  · rintro ⟨⟨a, b⟩, h, rfl⟩
    obtain ⟨h1, h2⟩ := List.mem_filter.mp h
    have h3 : x = a ∨ x = b := by simpa using h2
    rcases h3 with rfl | rfl
    · left
      have : x + b - x = b := by omega
      rw [this]
      exact h1
    · right
      have : a + x - x = a := by omega
      rw [this]
      exact h1
  · rintro (h | h)
    · exact ⟨(x, y), List.mem_filter.mpr ⟨h, by simp⟩, by show x + y - x = y; omega⟩
    · exact ⟨(y, x), List.mem_filter.mpr ⟨h, by simp⟩, by show y + x - x = y; omega⟩
theorem nbr_symm {ties : List (Int × Int)} {x y : Int} (h : y ∈ nbr ties x) : x ∈ nbr ties y := mem_nbr.mpr (mem_nbr.mp h).symm
theorem nbr_len (ties : List (Int × Int)) (x : Int) : (nbr ties x).length ≤ ties.length := by
  unfold nbr
  rw [ms_len, List.length_map]
  exact List.length_filter_le _ _
theorem Web.nb {n : Int} {ties : List (Int × Int)} (w : Web n ties) {x y : Int} (h : y ∈ nbr ties x) : 0 ≤ y ∧ y < n := by
  rcases mem_nbr.mp h with h | h
  · have := w.rg _ h; exact ⟨by omega, this.2.2⟩
  · have := w.rg _ h; exact ⟨this.1, by omega⟩
/-! ### dicts of places -/
section
variable {ν : Type}
theorem dget_some {κ : Type} [DecidableEq κ] {kvs : List (κ × ν)} {k : κ} : (dget kvs k).isSome = decide (k ∈ kvs.map (·.1)) := by
  unfold dget
  rw [Option.isSome_map, Bool.eq_iff_iff, decide_eq_true_eq, List.find?_isSome, List.mem_map]
  simp
theorem dget_is {κ : Type} [DecidableEq κ] {kvs : List (κ × ν)} {k : κ} (h : k ∈ kvs.map (·.1)) : (dget kvs k).isSome = true := by rw [dget_some]; exact decide_eq_true h
theorem dget_not {κ : Type} [DecidableEq κ] {kvs : List (κ × ν)} {k : κ} (h : k ∉ kvs.map (·.1)) : (dget kvs k).isSome = false := by rw [dget_some]; exact decide_eq_false h
theorem dput_new {κ : Type} [DecidableEq κ] {kvs : List (κ × ν)} {k : κ} {v : ν} (h : k ∉ kvs.map (·.1)) : dput kvs k v = kvs ++ [(k, v)] := by
  unfold dput
  rw [if_neg]
  simp only [List.any_eq_true, decide_eq_true_eq, not_exists, not_and]
  intro q hq e
  exact h (List.mem_map.mpr ⟨q, hq, e⟩)
theorem dc_keys {S : List Int} : ∀ {acc : List (Int × Bool)}, S.Nodup → (∀ x ∈ S, x ∉ acc.map (·.1)) → dcO (fun x => some x) (fun _ => some true) S acc = some (acc ++ S.map fun x => (x, true)) := by
  induction S with
  | nil => intro acc _ _; simp [dcO]
  | cons x S ih =>
    intro acc hd hn
    obtain ⟨d1, d2⟩ := List.nodup_cons.mp hd
    unfold dcO
    rw [Option.bind_some, Option.bind_some, dput_new (hn x List.mem_cons_self), ih d2 fun y hy h => ?_, List.append_assoc]
    · rfl
    · rw [List.map_append, List.mem_append] at h
      rcases h with h | h
      · exact hn y (List.mem_cons_of_mem _ hy) h
      · have e : y = x := by simpa using h
        exact d1 (e ▸ hy)
end
theorem nodup_le {α : Type} [DecidableEq α] : ∀ {D E : List α}, D.Nodup → (∀ x ∈ D, x ∈ E) → D.length ≤ E.length
  | [], _, _, _ => Nat.zero_le _
  | x :: D, E, hd, h => by
    obtain ⟨d1, d2⟩ := List.nodup_cons.mp hd
    have hx := h x List.mem_cons_self
    have ih := nodup_le (E := E.erase x) d2 fun y hy => (List.mem_erase_of_ne (fun (e : y = x) => d1 (e ▸ hy))).mpr (h y (List.mem_cons_of_mem _ hy))
    rw [List.length_erase_of_mem hx] at ih
    have := List.length_pos_of_mem hx
    rw [List.length_cons]
    omega
theorem nodup_rng_len {n : Int} {D : List Int} (hd : D.Nodup) (h : ∀ x ∈ D, 0 ≤ x ∧ x < n) : D.length ≤ n.toNat := by
  have := nodup_le hd fun x hx => mem_rng.mpr (h x hx)
  rw [rng_len] at this
  simpa using this
theorem nbr_nodup {n : Int} {ties : List (Int × Int)} (w : Web n ties) (hd : ties.Nodup) (x : Int) : (nbr ties x).Nodup := by
  unfold nbr
  rw [ms_nodup]
  show List.Pairwise (· ≠ ·) _
  rw [List.pairwise_map]
  refine ((hd.filter _ : List.Pairwise (· ≠ ·) _)).imp_of_mem fun {s t} hs ht hne e => hne ?_
  obtain ⟨s1, s2⟩ := List.mem_filter.mp hs
  obtain ⟨t1, t2⟩ := List.mem_filter.mp ht
  have ws := w.rg s s1
  have wt := w.rg t t1
  have s3 : x = s.1 ∨ x = s.2 := by simpa using s2
  have t3 : x = t.1 ∨ x = t.2 := by simpa using t2
  refine Prod.ext ?_ ?_ <;> rcases s3 with h | h <;> rcases t3 with k | k <;> omega
end Mir
namespace Mir
open PySem L2
/-! ### the least, the greatest of alike data -/
section
variable {α : Type}
def minL (lt : α → α → Bool) : List α → Option α
  | [] => none
  | x :: xs => some (xs.foldl (fun a y => if lt y a then y else a) x)
def maxL (lt : α → α → Bool) : List α → Option α
  | [] => none
  | x :: xs => some (xs.foldl (fun a y => if lt a y then y else a) x)
/-- data that can be compared; lt: their order -/
structure Cmp (d : α → PyData) (lt : α → α → Bool) : Prop where
  ali : ∀ a b, PySem.W.alike (d a) (d b) = true
  non : ∀ a, d a ≠ .none
  dep : ∀ a, (d a).depth ≤ 60
  lt : ∀ a b, PySem.W.dataLt (d a) (d b) = lt a b
theorem cmp_int : Cmp dI (fun a b => decide (a < b)) := ⟨fun _ _ => (by simp [PySem.W.alike]), fun _ h => (by cases h), fun _ => (by simp [PyData.depth]), fun a b => PySem.W.dataLt_int a b⟩
theorem minD_map {d : α → PyData} {lt : α → α → Bool} (h : Cmp d lt) : ∀ (xs : List α) (x : α), PySem.W.minD (d x) (xs.map d) = d (xs.foldl (fun a y => if lt y a then y else a) x)
  | [], x => rfl
  | y :: xs, x => by
    have ih := minD_map h xs (if lt y x then y else x)
    unfold PySem.W.minD at ih ⊢
    rw [List.map_cons, List.foldl_cons, List.foldl_cons, h.lt, ← ih]
    congr 1
    split <;> rfl
theorem maxD_map {d : α → PyData} {lt : α → α → Bool} (h : Cmp d lt) : ∀ (xs : List α) (x : α), PySem.W.maxD (d x) (xs.map d) = d (xs.foldl (fun a y => if lt a y then y else a) x)
  | [], x => rfl
  | y :: xs, x => by
    have ih := maxD_map h xs (if lt x y then y else x)
    unfold PySem.W.maxD at ih ⊢
    rw [List.map_cons, List.foldl_cons, List.foldl_cons, h.lt, ← ih]
    congr 1
    split <;> rfl
theorem fold_mem {α : Type} {c : α → α → Bool} : ∀ (xs : List α) (x : α), xs.foldl (fun a y => if c a y then y else a) x ∈ x :: xs
  | [], x => by simp
  | y :: xs, x => by
    rw [List.foldl_cons]
    have ih := fold_mem (c := c) xs (if c x y then y else x)
    rcases List.mem_cons.mp ih with h | h
    · rw [h]
      split <;> simp
    · exact List.mem_cons_of_mem _ (List.mem_cons_of_mem _ h)
theorem depthAll_le {n : Nat} : ∀ (xs : List PyData), (∀ x ∈ xs, x.depth ≤ n) → PyData.depthAll xs ≤ n
  | [], _ => by simp [PyData.depthAll]
  | x :: xs, h => by
    rw [PyData.depthAll]
    exact Nat.max_le.mpr ⟨h x List.mem_cons_self, depthAll_le xs fun y hy => h y (List.mem_cons_of_mem _ hy)⟩
end
section
open PyProof.Rows
variable {X : Cx} {α β W : Type} {e : Expr} {ρ : Env} {L : Ow} {p pos : Pos} {d : α → PyData} {j : Nat}
def rBest (K : PySem.W.Frag) (f : PyData → List PyData → PyData) : List V → Hp → VK → Prop := fun vs H Q =>
  ∃ (a : Addr) (us : List V) (x : PyData) (xs : List PyData), vs = [V.ref a] ∧ (SqL K H a us ∨ SqT K H a us) ∧ DpAll K H us (x :: xs) ∧ PySem.W.AlikeAll (x :: xs) ∧ PyData.depthAll (x :: xs) ≤ 60 ∧ ∀ (i : Nat) (u : V), us[i]? = some u → (x :: xs)[i]? = some (f x xs) → Q u H
theorem best_pick {K : PySem.W.Frag} {pins : List (Addr × Obj)} {σ : L2.St} {H : Hp} {s : Shared} {us : List V} {vs : List Value} {x : PyData} {xs : List PyData} {as bs : List Addr} {m : PyData} {i : Nat} {v : Value} {h' : Heap} (rv : Vals us vs) (hr : ReadsAll s.heap vs (x :: xs) as) (hal : PySem.W.AlikeAll (x :: xs)) (hm : m ∈ x :: xs)
    (hv : vs[i]? = some v) (r : Reads h' v m bs) (hk : ∀ b o, s.heap.get? b = some o → h'.get? b = some o) : ∃ u, us[i]? = some u ∧ RelV u v ∧ (x :: xs)[i]? = some m := by
  have hi : i < us.length := by
    rw [rv.length]
    exact (List.getElem?_eq_some_iff.mp hv).1
  obtain ⟨w, hw, rw'⟩ := rv.get (List.getElem?_eq_getElem hi)
  rw [hv] at hw
  cases hw
  obtain ⟨cs, r2, h2, h3, h4⟩ := PySem.W.readsAll_at hr i v hv
  have e := PySem.W.alike_unique _ _ _ _ _ (hal.1 _ h3 _ hm) (PyProof.Rows.Reads.keeps hk r2) r
  refine ⟨us[i], List.getElem?_eq_getElem hi, rw', ?_⟩
  rw [← e, List.getD_eq_getElem?_getD, List.getElem?_eq_getElem h2]
  rfl
theorem cr_minD (hc : X.calm = true) (hu : X.A.units + 70 < cLine) : CallR X (.builtin "min") (rBest X.K PySem.W.minD) := by
  intro pins s σ H vs us Q I r h
  obtain ⟨a, ws, x, xs, rfl, hs, hd, hal, hdp, q⟩ := h
  rw [Vals.ref1 r]
  rcases hs with hs | hs
  · obtain ⟨its, rv, hl, _⟩ := I.list hs
    obtain ⟨as, hr⟩ := Dp.readsAll I _ _ its hd rv
    refine PySem.W.min_list_data (I.ok.hd hc) hl.isList hr hal (by omega) fun i v h' tk bs hv r' hk => ?_
    obtain ⟨u, h1, h2, h3⟩ := best_pick (K := X.K) (pins := pins) (σ := σ) (H := H) rv hr hal (fold_mem xs x) (by simpa using hv) r' hk
    exact ⟨u, H, I.kept hk, h2, q i u h1 h3⟩
  · obtain ⟨its, rv, hl, _⟩ := I.tuple hs
    obtain ⟨as, hr⟩ := Dp.readsAll I _ _ its hd rv
    refine PySem.W.min_tuple_data (I.ok.hd hc) (show s.heap.IsTuple a its.toArray from hl) hr hal (by omega) fun i v h' tk bs hv r' hk => ?_
    obtain ⟨u, h1, h2, h3⟩ := best_pick (K := X.K) (pins := pins) (σ := σ) (H := H) rv hr hal (fold_mem xs x) (by simpa using hv) r' hk
    exact ⟨u, H, I.kept hk, h2, q i u h1 h3⟩
theorem cr_maxD (hc : X.calm = true) (hu : X.A.units + 70 < cLine) : CallR X (.builtin "max") (rBest X.K PySem.W.maxD) := by
  intro pins s σ H vs us Q I r h
  obtain ⟨a, ws, x, xs, rfl, hs, hd, hal, hdp, q⟩ := h
  rw [Vals.ref1 r]
  rcases hs with hs | hs
  · obtain ⟨its, rv, hl, _⟩ := I.list hs
    obtain ⟨as, hr⟩ := Dp.readsAll I _ _ its hd rv
    refine PySem.W.max_list_data (I.ok.hd hc) hl.isList hr hal (by omega) fun i v h' tk bs hv r' hk => ?_
    obtain ⟨u, h1, h2, h3⟩ := best_pick (K := X.K) (pins := pins) (σ := σ) (H := H) rv hr hal (fold_mem xs x) (by simpa using hv) r' hk
    exact ⟨u, H, I.kept hk, h2, q i u h1 h3⟩
  · obtain ⟨its, rv, hl, _⟩ := I.tuple hs
    obtain ⟨as, hr⟩ := Dp.readsAll I _ _ its hd rv
    refine PySem.W.max_tuple_data (I.ok.hd hc) (show s.heap.IsTuple a its.toArray from hl) hr hal (by omega) fun i v h' tk bs hv r' hk => ?_
    obtain ⟨u, h1, h2, h3⟩ := best_pick (K := X.K) (pins := pins) (σ := σ) (H := H) rv hr hal (fold_mem xs x) (by simpa using hv) r' hk
    exact ⟨u, H, I.kept hk, h2, q i u h1 h3⟩
/-- max(q), min(q): q a list or a tuple -/
theorem best_read {lt : α → α → Bool} (hc : Cmp d lt) {K : PySem.W.Frag} {B F0 : Hp} {σ : L2.St} {H : Hp} {vs : List V} {ds : List Sl} {v : V} {sl : Sl} {x : α} {xs : List α} {Q : VK} {f : PyData → List PyData → PyData} {z : α} (q : SeqOf L sl ((x :: xs).map d)) (s : St K B F0 ρ L σ H (v :: vs) (sl :: ds))
    (hf : f (d x) (xs.map d) = d z) (k : ∀ u, St K B F0 ρ L σ H (u :: vs) (.dat (d z) :: ds) → Q u H) : rBest K f [v] H Q := by
  obtain ⟨a, us, rfl, h1, h2, h3⟩ := s.seq q
  obtain ⟨F, ok, sl', sv⟩ := id h3
  obtain ⟨sv1, sv2⟩ := pr_split (by rw [List.length_map]; exact h2) sv
  refine ⟨a, us, d x, xs.map d, rfl, ?_, Rps.dp ok.le _ _ (nodAll_iff.mpr fun y hy => by obtain ⟨y', _, rfl⟩ := List.mem_map.mp (show y ∈ (x :: xs).map d from hy); exact nod_of_alike _ (hc.ali y' y')) (dats sv1), ⟨fun y hy z hz => ?_, fun y hy => ?_⟩, depthAll_le _ fun y hy => ?_, fun i u hu hi => ?_⟩
  · rcases h1 with h1 | h1
    · exact .inl h1
    · exact .inr h1
  · obtain ⟨y', _, rfl⟩ := List.mem_map.mp (show y ∈ (x :: xs).map d from hy)
    obtain ⟨z', _, rfl⟩ := List.mem_map.mp (show z ∈ (x :: xs).map d from hz)
    exact hc.ali y' z'
  · obtain ⟨y', _, rfl⟩ := List.mem_map.mp (show y ∈ (x :: xs).map d from hy)
    exact hc.non y'
  · obtain ⟨y', _, rfl⟩ := List.mem_map.mp (show y ∈ (x :: xs).map d from hy)
    exact hc.dep y'
  · obtain ⟨w, hw, r⟩ := pr_get sv1 (show (((x :: xs).map d).map Sl.dat)[i]? = some (.dat (d z)) by
      rw [List.getElem?_map]
      rw [show ((x :: xs).map d) = d x :: xs.map d from rfl, hi, hf]
      rfl)
    rw [hu] at hw
    cases hw
    exact k u ⟨F, ok, sl', .cons r (by cases sv2 with | cons _ t => exact t)⟩
theorem x_minD {lt : α → α → Bool} {o : Option (List α)} (hk : Cmp d lt) (hr : Room j X.A) (h : QX X d e ρ L o) (hm : X.mg "min" = none) (hs : starEach [e] X.env = (false, eval e X.env) :: starEach [] X.env := by rfl)
    (hh : X.mg "min" = none → ∀ {ta}, PE X e ta → X.A.units + 70 < cLine → PE X (.Call (.Name "min" p) [e] [] pos) (tCB (rBest X.K PySem.W.minD) (tCons ta tNil)) := by intro hm _ h hu; exact pe_callB (cr_minD rfl hu) (by rfl) hm (by decide +kernel) (pa_cons h pa_nil)) :
    EX X d (.Call (.Name "min" p) [e] [] pos) ρ L (o.bind (minL lt)) := by
  obtain ⟨t, p, h⟩ := h
  refine ⟨_, hh hm p (by have := hr.un; omega), fun z hz B F0 σ H vs ds Q s k => ?_⟩
  obtain ⟨xs, hx, hz⟩ := Option.bind_eq_some_iff.mp hz
  refine h xs hx B F0 σ H vs ds _ s fun v sl H1 q s1 => ?_
  cases xs with
  | nil => cases hz
  | cons x xs =>
    have e : xs.foldl (fun a y => if lt y a then y else a) x = z := by simpa [minL] using hz
    exact best_read hk q s1 (by rw [minD_map hk, e]) fun u s2 => k u _ s2
theorem x_maxD {lt : α → α → Bool} {o : Option (List α)} (hk : Cmp d lt) (hr : Room j X.A) (h : QX X d e ρ L o) (hm : X.mg "max" = none) (hs : starEach [e] X.env = (false, eval e X.env) :: starEach [] X.env := by rfl)
    (hh : X.mg "max" = none → ∀ {ta}, PE X e ta → X.A.units + 70 < cLine → PE X (.Call (.Name "max" p) [e] [] pos) (tCB (rBest X.K PySem.W.maxD) (tCons ta tNil)) := by intro hm _ h hu; exact pe_callB (cr_maxD rfl hu) (by rfl) hm (by decide +kernel) (pa_cons h pa_nil)) :
    EX X d (.Call (.Name "max" p) [e] [] pos) ρ L (o.bind (maxL lt)) := by
  obtain ⟨t, p, h⟩ := h
  refine ⟨_, hh hm p (by have := hr.un; omega), fun z hz B F0 σ H vs ds Q s k => ?_⟩
  obtain ⟨xs, hx, hz⟩ := Option.bind_eq_some_iff.mp hz
  refine h xs hx B F0 σ H vs ds _ s fun v sl H1 q s1 => ?_
  cases xs with
  | nil => cases hz
  | cons x xs =>
    have e : xs.foldl (fun a y => if lt a y then y else a) x = z := by simpa [maxL] using hz
    exact best_read hk q s1 (by rw [maxD_map hk, e]) fun u s2 => k u _ s2
/-! ### xs[i] op= e -/
theorem pget_list : PGet X (rIxL X.K) := by
  intro pins s σ H o i ov iv Q I ro ri h
  obtain ⟨p, xs, k, z, rfl, rfl, hq, he, q⟩ := h
  cases ro
  obtain ⟨t, rfl⟩ := ri
  obtain ⟨its, r, pl, hz⟩ := I.list hq
  obtain ⟨j, h1, h2, h3, h4, h5⟩ := atI_get he
  obtain ⟨w, ew, rw'⟩ := r.get h2
  have hl := r.length
  have hn := line63
  have fin : EP X pins σ Q w s := ⟨z, H, I, rw', q⟩
  by_cases h0 : 0 ≤ k
  · have hj : k.toNat = j := by
      rw [seqIndex_of h0 h5] at h1
      exact Option.some.inj h1
    exact wpAny_getItem_list (Q := EP X pins σ Q) pl.isList h0 (by omega) (by rw [hj]; simpa using ew) fin
  · have hj : (k + (its.toArray.size : Int)).toNat = j := by
      rw [seqIndex_neg (by omega) h4] at h1
      rw [List.size_toArray, ← hl]
      exact Option.some.inj h1
    exact wpAny_getItem_list_neg (Q := EP X pins σ Q) pl.isList (by omega) (by rw [List.size_toArray] <;> omega) (by omega) (by rw [hj]; simpa using ew) fin
theorem s_augI {op : Operator} {r : R2} {g : α → β → Option α} {d' : β → PyData} {o i e : Expr} {xs : List α} {oe : Option β} {oi : Option Int} {tpos : Pos} {q : Addr} (j : Nat) (hop : OpR X (inplaceOp op) r) (hg : Op2 X.K r d d' d g) (hL : L[j]? = some (q, odL d xs)) (ho : ES X o ρ L (some (.ptr q))) (hi : EX X dI i ρ L oi) (h : EX X d' e ρ L oe)
    (hh : ∀ {to ti te}, PE X o to → PE X i ti → PE X e te → PIp X op r → PS X (.AugAssign (.Subscript o i tpos) op e pos) (tAugS to ti te (rIxL X.K) r rSetL) := by intro _ _ _ h1 h2 h3 h4; exact ps_augS h1 h2 pget_list h3 h4 set_list) :
    SX X (.AugAssign (.Subscript o i tpos) op e pos) ρ L (oi.bind fun n => (atO xs n).bind fun x => oe.bind fun y => (g x y).bind fun z => setO xs n z) (ocn fun ys => (ρ, L.set j (q, odL d ys))) := by
  obtain ⟨to, po, ho⟩ := ho
  obtain ⟨ti, pi, hi⟩ := hi
  obtain ⟨te, pe, h⟩ := h
  refine ⟨_, hh po pi pe (pip_of hop), fun ys hy B F0 σ H vs ds D s k => ?_⟩
  obtain ⟨n, hn, hy⟩ := Option.bind_eq_some_iff.mp hy
  obtain ⟨x, hx, hy⟩ := Option.bind_eq_some_iff.mp hy
  obtain ⟨y, hy1, hy⟩ := Option.bind_eq_some_iff.mp hy
  obtain ⟨z, hz, hy⟩ := Option.bind_eq_some_iff.mp hy
  obtain ⟨m, hm, rfl⟩ := Option.map_eq_some_iff.mp hy
  refine ho _ rfl B F0 σ H vs ds _ s fun v H1 s1 => hi n hn B F0 σ H1 _ _ _ s1 fun w H2 s2 => ?_
  have ew := s2.isInt
  have ev := s2.pop.isPtr
  subst ew ev
  obtain ⟨F, ok, sl, sv⟩ := id s2
  obtain ⟨us, g2, g3⟩ := ok.at_ hL
  obtain ⟨u, hu, ru⟩ := pr_atI g3 (show atI ((xs.map d).map Sl.dat) n = some (.dat (d x)) by rw [atI_map, atI_map, show atI xs n = some x from hx]; rfl)
  refine ⟨q, us, n, u, rfl, rfl, SqL.of g2, hu, ?_⟩
  have s3 : St X.K B F0 ρ L σ H2 (u :: .int n :: .ref q :: vs) (.dat (d x) :: .dat (dI n) :: .ptr q :: ds) := ⟨F, ok, sl, .cons ru sv⟩
  refine h y hy1 B F0 σ H2 _ _ _ s3 fun u2 H3 s4 => hg x y z hz B F0 ρ L σ H3 _ _ u u2 _ s4 fun u3 H4 s5 => ?_
  obtain ⟨F', ok', sl', sv'⟩ := s5
  obtain ⟨us', g2', g3'⟩ := ok'.at_ hL
  have hlen : us'.length = xs.length := by rw [Paired.length g3', List.length_map, List.length_map]
  have hsz := ok'.sz _ _ g2'
  cases sv' with
  | cons r1 t =>
    cases t with
    | cons r2 t =>
      cases t with
      | cons r3 t =>
        refine ⟨q, us', n, m, rfl, rfl, g2', by rw [hlen]; exact hm, k _ _ ⟨F', ok'.put hL (d' := odL d (xs.set m z)) (o := .lst (us'.set m u3)) (by show (us'.set m u3).length ≤ sizeLine; rw [List.length_set]; exact hsz) ⟨_, upd_same, ?_⟩, sl', t⟩⟩
        rw [List.map_set, List.map_set]
        exact pr_set r1 m g3'
/-! ### xs.insert(i, y), the place by what turns the world -/
noncomputable def insO (xs : List α) (i : Int) (y : α) : Option (List α) := @ite _ ((0 ≤ i ∧ i < 4611686018427387904) ∧ xs.length < sizeLine) (Classical.propDecidable _) (some (xs.take i.toNat ++ [y] ++ xs.drop i.toNat)) none
theorem s_insertM {o i e : Expr} {apos cpos : Pos} {Lf : W → Ow} {w0 : W} {xs : List α} {mi : Option (Int × W)} {oe : W → Option α} (j : Nat) {ad : Addr} (hL : ∀ w, (Lf w)[j]? = some (ad, odL d xs)) (ho : ∀ w, ES X o ρ (Lf w) (some (.ptr ad))) (hi : EM X dI i ρ Lf w0 mi) (h : ∀ w, EX X d e ρ (Lf w) (oe w))
    (hs : swapsWith (.Call (.Attribute o "insert" apos) [i, e] [] cpos) none pos.line X.env = pure false := by rfl)
    (hh : ∀ {to ti te}, PE X o to → PE X i ti → PE X e te → PE X (.Call (.Attribute o "insert" apos) [i, e] [] cpos) (tBM X.K "list" (fun x vs H Q => ∃ (l : Addr) (xs : List V) (i : Int) (y : V), x = .ref l ∧ vs = [.int i, y] ∧ H l = some (.lst xs) ∧ xs.length < sizeLine ∧ 0 ≤ i ∧ i < 2 ^ 63 ∧
      Q .non (upd H l (.lst (xs.take i.toNat ++ [y] ++ xs.drop i.toNat)))) to (tCons ti (tCons te tNil))) := by intro _ _ _ p1 p2 p3; exact pe_bm PySem.F.plainAttrs_list PySem.F.slot_list_insert PySem.F.type_list_insert mt_insert p1 (pa_cons p2 (pa_cons p3 pa_nil (by rfl)) (by rfl))) :
    SX X (.Expr (.Call (.Attribute o "insert" apos) [i, e] [] cpos) pos) ρ (Lf w0) (mi.bind fun n => (oe n.2).bind fun y => (insO xs n.1 y).map fun z => (z, n.2)) (ocn fun ys => (ρ, (Lf ys.2).set j (ad, odL d ys.1))) := by
  obtain ⟨to, po, ho⟩ : ∃ to, PE X o to ∧ ∀ B F0 σ H vs ds Q, St X.K B F0 ρ (Lf w0) σ H vs ds → (∀ v H', St X.K B F0 ρ (Lf w0) σ H' (v :: vs) (.ptr ad :: ds) → Q v H') → to σ H Q := by
    obtain ⟨to, po, ho⟩ := ho w0
    exact ⟨to, po, fun B F0 σ H vs ds Q s k => ho _ rfl B F0 σ H vs ds Q s k⟩
  obtain ⟨ti, pi, hi⟩ := hi
  obtain ⟨te, pe, h⟩ : ∃ te, PE X e te ∧ ∀ w a, oe w = some a → ∀ B F0 σ H vs ds Q, St X.K B F0 ρ (Lf w) σ H vs ds → (∀ v H', St X.K B F0 ρ (Lf w) σ H' (v :: vs) (.dat (d a) :: ds) → Q v H') → te σ H Q := by
    refine ⟨fun σ H Q => ∃ w a B F0 vs ds, oe w = some a ∧ St X.K B F0 ρ (Lf w) σ H vs ds ∧ ∀ v H', St X.K B F0 ρ (Lf w) σ H' (v :: vs) (.dat (d a) :: ds) → Q v H', ⟨fun pins s σ H Q I h2 => ?_⟩, fun w a ea B F0 σ H vs ds Q s k => ⟨w, a, B, F0, vs, ds, ea, s, k⟩⟩
    obtain ⟨w, a, B, F0, vs, ds, ea, st, k⟩ := h2
    obtain ⟨tb, pb, hb⟩ := h w
    exact pb.run pins s σ H Q I (hb a ea B F0 σ H vs ds Q st k)
  refine ⟨_, ps_expr (hh po pi pe) hs, fun ys hy B F0 σ H vs ds D s q => ?_⟩
  obtain ⟨⟨n, w1⟩, hn, hy⟩ := Option.bind_eq_some_iff.mp hy
  obtain ⟨a, ha, hy⟩ := Option.bind_eq_some_iff.mp hy
  obtain ⟨zs, hz, rfl⟩ := Option.map_eq_some_iff.mp hy
  unfold insO at hz
  split at hz
  · rename_i hl
    cases hz
    refine ho B F0 σ H vs ds _ s fun v H1 s1 => ?_
    obtain ⟨us1, g1, _, _, _⟩ := s1.own1 (mem_at (hL w0))
    have ev := s1.isPtr
    subst ev
    refine ⟨.inl ⟨rfl, _, SqL.of g1⟩, hi n w1 hn B F0 σ H1 _ _ _ s1 fun u H2 s2 => h w1 a ha B F0 σ H2 _ _ _ s2 fun u2 H3 s3 => ?_⟩
    have eu := s3.pop.isInt
    obtain ⟨F, ok, sl, sv⟩ := s3
    obtain ⟨us, g2, g3⟩ := ok.at_ (hL w1)
    have hlen : us.length = xs.length := by rw [Paired.length g3, List.length_map, List.length_map]
    cases sv with
    | cons r t =>
      cases t with
      | cons r2 t =>
        cases t with
        | cons r3 t =>
          refine ⟨ad, us, n, u2, rfl, by rw [eu], g2, by omega, hl.1.1, by omega, q _ _ ⟨F, ok.put (hL w1) (d' := odL d (xs.take n.toNat ++ [a] ++ xs.drop n.toNat)) (o := .lst (us.take n.toNat ++ [u2] ++ us.drop n.toNat)) ?_ ⟨_, upd_same, ?_⟩, sl, t⟩⟩
          · show (us.take n.toNat ++ [u2] ++ us.drop n.toNat).length ≤ sizeLine
            rw [List.length_append, List.length_append, List.length_take, List.length_drop, List.length_singleton]
            omega
          · rw [List.map_append, List.map_append, List.map_append, List.map_append, List.map_take, List.map_take, List.map_drop, List.map_drop]
            exact pr_app (pr_app (pr_take g3) (.cons r .nil)) (pr_drop g3)
  · cases hz
  where
    pr_take {τ υ : Type} {R : τ → υ → Prop} : ∀ {k : Nat} {xs : List τ} {ys : List υ}, Paired R xs ys → Paired R (xs.take k) (ys.take k)
      | 0, _, _, _ => by rw [List.take_zero, List.take_zero]; exact .nil
      | k + 1, _, _, .nil => .nil
      | k + 1, _, _, .cons r t => .cons r (pr_take (k := k) t)
    pr_drop {τ υ : Type} {R : τ → υ → Prop} : ∀ {k : Nat} {xs : List τ} {ys : List υ}, Paired R xs ys → Paired R (xs.drop k) (ys.drop k)
      | 0, _, _, h => by rw [List.drop_zero, List.drop_zero]; exact h
      | k + 1, _, _, .nil => .nil
      | k + 1, _, _, .cons r t => pr_drop (k := k) t
/-! ### sorted(..) of what turns the world; comprehensions over what turns it -/
theorem m_sorted {le : α → α → Bool} {Lf : W → Ow} {w : W} {m : Option (List α × W)} (hd : Srt d le) (hr : Room j X.A) (h : EM X (dL d) e ρ Lf w m) (hm : X.mg "sorted" = none) (hs : starEach [e] X.env = (false, eval e X.env) :: starEach [] X.env := by rfl)
    (hh : X.mg "sorted" = none → ∀ {ta}, PE X e ta → X.A.units + 70 < cLine → PE X (.Call (.Name "sorted" p) [e] [] pos) (tCB (rSortD X.K) (tCons ta tNil)) := by intro hm _ h hu; exact pe_callB (cr_sortD hu) (by rfl) hm (by decide +kernel) (pa_cons h pa_nil)) :
    EM X (dL d) (.Call (.Name "sorted" p) [e] [] pos) ρ Lf w (m.map fun r => (r.1.mergeSort le, r.2)) := by
  obtain ⟨t, p, h⟩ := h
  refine ⟨_, hh hm p (by have := hr.un; omega), fun z w' hz B F0 σ H vs ds Q s k => ?_⟩
  obtain ⟨⟨xs, w1⟩, hx, e⟩ := Option.map_eq_some_iff.mp hz
  injection e with e1 e2
  subst e1 e2
  refine h xs w1 hx B F0 σ H vs ds _ s fun v H1 s1 => sort_read hd (.lst _) s1 fun p' H2 s2 => ?_
  have s3 := St.frz (L2 := []) s2
  rw [List.append_nil] at s3
  exact k _ _ s3
theorem IM.lim {tg : Expr} {Lf : W → Ow} {w : W} {o o' : Option (List Int × W)} (h : IM X tg e ρ Lf w anyL false (fun x => .dat (dI x)) o) (q : ∀ xs w', o' = some (xs, w') → o = some (xs, w') ∧ xs.length ≤ 16777216) : IM X tg e ρ Lf w anyL true (fun x => .dat (dI x)) o' := by
  obtain ⟨t, p, h⟩ := h
  refine ⟨t, p, fun xs w' hx B F0 σ H vs ds R s k => ?_⟩
  obtain ⟨h1, h2⟩ := q xs w' hx
  exact h xs w' h1 B F0 σ H vs ds R s fun J H1 pv pd e1 _ s1 w => k J H1 pv pd e1 (fun _ => Nat.le_trans h2 (by decide)) s1 w
theorem im_rangeL {tg : Expr} {Lf : W → Ow} {w : W} {m : Option (Int × W)} (h : EM X dI e ρ Lf w m) (hm : X.mg "range" = none) (hg : Gl X "range" := by rfl) (hs : starEach [e] X.env = [(false, eval e X.env)] := by rfl) (hs2 : starEach [e] X.env = (false, eval e X.env) :: starEach [] X.env := by rfl) : IM X tg (.Call (.Name "range" p) [e] [] pos) ρ Lf w anyL true (fun x => .dat (dI x)) (m.bind fun n => (rngL 0 n.1).map fun xs => (xs, n.2)) :=
  (im_range h hm hg hs hs2).lim fun xs w' hx => by
    obtain ⟨⟨n, w2⟩, hn, hx⟩ := Option.bind_eq_some_iff.mp hx
    obtain ⟨z, hx', e⟩ := Option.map_eq_some_iff.mp hx
    injection e with e1 e2
    subst e1 e2
    rw [hn, Option.bind_some, (rngL_lim hx').1]
    exact ⟨rfl, (rngL_lim hx').2⟩
end
section
variable {X : Cx} {α β γ W : Type} {e tg iter elt c : Expr} {ρ ρ' : Env} {L : Ow} {pos : Pos} {d : α → PyData}
theorem lc_allM {scope : Scope} {own : List (Str × Nat)} {ifs : List Expr} {Lf : W → Ow} {w0 : W} {PL : Ow → Prop} {en : γ → Sl} {o : Option (List γ × W)} {ρb : γ → Env} {cf : γ → W → Option (Bool × W)} {k : γ → W → Option (α × W)}
    (hi : IM X tg iter ρ Lf w0 PL true en o) (hPL : ∀ w M, PL (Lf w ++ M)) (hg : Bk X scope fun X => ∀ x, GY X tg (wipeE ρ (own.map (·.2))) (en x) (ρb x) (own.map (·.2)))
    (ht : ∃ t, Bk X scope (fun X => PTs X ifs t) ∧ ∀ x w a w', cf x w = some (a, w') → ∀ M B F0 σ H vs ds Q, St X.K B F0 (ρb x) (Lf w ++ M) σ H vs ds → (∀ H', St X.K B F0 (ρb x) (Lf w' ++ M) σ H' vs ds → Q a H') → t σ H Q)
    (he : Bk X scope fun X => ∀ x w M, EM X d elt (ρb x) (fun w => Lf w ++ M) w (k x w)) :
    LCA X tg iter elt ifs scope own d ρ Lf w0 (o.bind fun q => filtW cf k q.1 q.2) := by
  obtain ⟨wi, pi, hi⟩ := hi
  obtain ⟨g, pg, hg⟩ := GY.bk hg
  obtain ⟨tt, pt, ht⟩ := ht
  obtain ⟨te, pe, he⟩ := EM.bk he
  refine ⟨wi, g, tt, te, pi, pg, pt, pe, fun ys wf hm B F0 σ H vs ds Q s q => ?_⟩
  obtain ⟨⟨xs, w1⟩, hx, hm⟩ := Option.bind_eq_some_iff.mp hm
  exact lc_read (w0 := w1) (fun R r => hi xs w1 hx B F0 σ H vs ds R s fun J H1 pv pd e z s1 w => r J H1 pv pd e (z rfl) s1 w) hPL (fun x w M σ H v vs ds Q => hg x (Lf w ++ M) B F0 σ H v vs ds Q) (fun x w b w' e M σ H vs ds Q => ht x w b w' e M B F0 σ H vs ds Q) (fun x w a w' e M σ H vs ds Q => he x w a w' e M B F0 σ H vs ds Q) hm s.slots q
theorem lmm_no {scope : Scope} {own : List (Str × Nat)} {Lf : W → Ow} {w0 : W} {PL : Ow → Prop} {en : γ → Sl} {o : Option (List γ × W)} {ρb : γ → Env} {k : γ → W → Option (α × W)}
    (hi : IM X tg iter ρ Lf w0 PL true en o) (hPL : ∀ w M, PL (Lf w ++ M)) (hg : Bk X scope fun X => ∀ x, GY X tg (wipeE ρ (own.map (·.2))) (en x) (ρb x) (own.map (·.2)))
    (he : Bk X scope fun X => ∀ x w M, EM X d elt (ρb x) (fun w => Lf w ++ M) w (k x w)) :
    LCA X tg iter elt [] scope own d ρ Lf w0 (o.bind fun q => mapW k q.1 q.2) := by
  refine (lc_allM (ifs := []) (cf := fun _ w => some (true, w)) hi hPL hg ⟨_, fun s H C cl fp => pts_nil, fun x w a w' e M B F0 σ H vs ds Q s q => by cases e; exact q H s⟩ he).conv ?_
  congr 1
  funext q
  exact (mapW_filt k q.1 q.2).symm
/-- a tuple of two as a pair -/
def t2O {α : Type} : List α → Option (α × α)
  | [a, b] => some (a, b)
  | _ => none
theorem t2O_some {α : Type} {d : α → PyData} {xs : List α} {q : α × α} (h : t2O xs = some q) : dT d xs = dP d d q := by
  unfold t2O at h
  split at h
  · cases h; rfl
  · cases h
theorem x_t2p {o : Option (List α)} (h : EX X (dT d) e ρ L o) : EX X (dP d d) e ρ L (o.bind t2O) := by
  obtain ⟨t, p, h⟩ := h
  refine ⟨t, p, fun q hq B F0 σ H vs ds Q s k => ?_⟩
  obtain ⟨xs, hx, hq⟩ := Option.bind_eq_some_iff.mp hq
  exact h xs hx B F0 σ H vs ds Q s fun v H' s' => k v H' (by rw [← t2O_some hq]; exact s')
theorem m_t2p {Lf : W → Ow} {w : W} {m : Option (List α × W)} (h : EM X (dT d) e ρ Lf w m) : EM X (dP d d) e ρ Lf w (m.bind fun r => (t2O r.1).map fun q => (q, r.2)) := by
  obtain ⟨t, p, h⟩ := h
  refine ⟨t, p, fun q w' hq B F0 σ H vs ds Q s k => ?_⟩
  obtain ⟨⟨xs, w1⟩, hx, hq⟩ := Option.bind_eq_some_iff.mp hq
  obtain ⟨z, hz, e⟩ := Option.map_eq_some_iff.mp hq
  injection e with e1 e2
  subst e1 e2
  exact h xs w1 hx B F0 σ H vs ds Q s fun v H' s' => k v H' (by rw [← t2O_some hz]; exact s')
end
section
variable {α : Type} [DecidableEq α]
def memD (a : α) (xs : List α) : Bool := decide (a ∈ xs)
theorem memD_iff {a : α} {xs : List α} : memD a xs = true ↔ a ∈ xs := decide_eq_true_iff
theorem memD_not {a : α} {xs : List α} : memD a xs = false ↔ a ∉ xs := decide_eq_false_iff_not
end
end Mir
namespace Mir
open PySem PySem.Spec PyProof.Rows L2
/-! ### a generator expression's own frame -/
abbrev gCx (X : Cx) (A' : Around) (s : Shared) (H : Hp) (cenv : PySem.Env) (fp : List Addr) : Cx :=
  { X with A := A', s_0 := s, H_0 := H, env := cenv, outer := X.stack, stack := cenv :: X.stack, ex := fp, fn := fun _ => false, pn := [], xe := fun _ _ => False }
theorem over_gen {A : Around} {elt iter target : Expr} {ifs : List Expr} {scope : Scope} {pos : Pos} {it : Value} {cenv : PySem.Env} :
    A.over (.compLoop (.GeneratorExp elt [⟨target, iter, ifs, 0⟩] scope pos) 0 it .none cenv) [] = A.deeper cenv := by
  obtain ⟨hd, d, fr, gs, u⟩ := A
  simp [Around.over, Around.deeper, marksOver, frameCount, unitsOf, envsOf, guardsOf, pushEnvs, pushGuards, Code.envs, Code.env?, Code.isFrame, Code.guards, Code.isGuard, Code.weight, Code.frames, Code.isCreation, Code.isCaller, Code.cUnits]
section
variable {X : Cx} {pins : List (Addr × Obj)} {σ : L2.St} {H : Hp} {s : Shared}
theorem gx_start {scope : Scope} {own : List (Str × Nat)} {fp : List Addr} {A' : Around} {code : Value} {bi : Addr} {h' : Heap} {G' : Array GenState} {tk : Nat} {m0 : Str → Option Value} {pg : List (Addr × Obj)}
    (I : Inv X pins σ H s) (ok : BlkOk X.N X.env.scope scope own) (hcell : ∀ y ∈ scope.names, y.2 ≠ .cell) (hN : X.N.Nodup) (hfp : ∀ b ∈ fp, FpOk X pins H b ∧ b < s.heap.objs.size)
    (hA : A'.handled = none) (hfr : A'.frames = some (genEnv scope (cloFrom X.env.cells scope.names []) s.heap.objs.size code bi X.env :: X.stack)) (hbi : bi = builtinsNs)
    (kp : ∀ b o, s.heap.get? b = some o → h'.get? b = some o) (hns : h'.Ns s.heap.objs.size m0) (hG : AllBare G')
    (hpg : ∀ p ∈ pg, h'.get? p.1 = some p.2 ∧ s.heap.objs.size < p.1 ∧ ∀ v, p.2.data ≠ .cell v) :
    Inv (gCx X A' s H (genEnv scope (cloFrom X.env.cells scope.names []) s.heap.objs.size code bi X.env) fp) pg (wipe σ (own.map (·.2))) H { s with heap := h', gens := G', toks := tk } := by
  subst hbi
  generalize hcenv : genEnv scope (cloFrom X.env.cells scope.names []) s.heap.objs.size code builtinsNs X.env = cenv at hfr ⊢
  have hL : cenv.locals = s.heap.objs.size := by rw [← hcenv]; rfl
  have hcl : cenv.cells = cloFrom X.env.cells scope.names [] := by rw [← hcenv]; rfl
  have hsc : cenv.scope = scope := by rw [← hcenv]; rfl
  have hfree : ∀ y ∈ scope.names, y.2 = .free → ∃ c, X.env.cells.lookup y.1 = some c := fun y hy e => by
    rcases ok.free y hy e with k | k
    · exact I.ok.has _ (.inl k)
    · exact I.ok.has _ (.inr k)
  have cm : ∀ {y c}, (y, c) ∈ cloFrom X.env.cells scope.names [] → X.env.cells.lookup y = some c ∧ c < s.heap.objs.size := fun {y c} hm => by
    rcases cloFrom_mem hm with hm | ⟨h1, rfl⟩
    · cases hm
    · obtain ⟨c, hc⟩ := hfree _ h1 rfl
      rw [hc]
      obtain ⟨w, z⟩ := I.cell _ _ hc
      exact ⟨rfl, z.lt⟩
  have mem : ∀ {y c}, cenv.cells.lookup y = some c → X.env.cells.lookup y = some c ∧ c < s.heap.objs.size := fun {y c} e => by
    rw [hcl] at e
    exact cm (PySem.mem_of_lookup e)
  have look : ∀ {y}, scope.names.lookup y = some .free → ∃ c, cenv.cells.lookup y = some c ∧ X.env.cells.lookup y = some c := fun {y} hl => by
    have hy : (y, NameKind.free) ∈ scope.names := PySem.mem_of_lookup hl
    obtain ⟨c', e'⟩ := mem_lookup (cloFrom_has (cells := X.env.cells) (acc := []) hy)
    rw [← hcl] at e'
    exact ⟨c', e', (mem e').1⟩
  have okB : (gCx X A' s H cenv fp).Ok := by
    refine ⟨I.ok.mod, by show cenv.scope.kind = _; rw [hsc]; exact ok.kind, by show cenv.globals = _; rw [← hcenv]; exact I.ok.glob, by show cenv.builtins = _; rw [← hcenv]; rfl, by show s.heap.objs.size ≤ cenv.locals; rw [hL]; exact Nat.le_refl _,
      fun y z c e1 e2 => I.ok.inj y z c (mem e1).1 (mem e2).1, fun y hy => ?_, fun y c z e => (by cases z), fun _ => hA, hfr, .inr ⟨rfl, by show cenv.frame = some cenv.locals; rw [← hcenv]; rfl⟩, fun b hb => ⟨?_, fun y c e z => ?_⟩, I.bs, Nat.le_trans I.ok.bsz I.sz, fun b o e hb => ?_, fun b hb z => ?_, I.stack, I.stkFree⟩
    · show ∃ c, cenv.cells.lookup y = some c
      have key : ∀ k, cenv.kindOf y = some k → (k = .cell ∨ k = .free) → ∃ c, cenv.cells.lookup y = some c := fun k hk hk' => by
        unfold Env.kindOf at hk
        rw [hsc] at hk
        rcases hk' with rfl | rfl
        · exact absurd rfl (hcell _ (PySem.mem_of_lookup hk))
        · obtain ⟨c, h1, _⟩ := look hk
          exact ⟨c, h1⟩
      rcases hy with hy | hy
      · exact key _ hy (.inl rfl)
      · exact key _ hy (.inr rfl)
    · show b ≠ cenv.locals
      rw [hL]; exact Nat.ne_of_lt (hfp b hb).2
    · exact (hfp b hb).1.2.2.2.2.1 y c (mem e).1 z
    · rcases (hfp b hb).1.2.2.2.1 with z | z
      · exact I.ok.noex b o e z
      · exact absurd (Nat.lt_of_lt_of_le (Heap.lt_size e) (Nat.le_trans I.ok.bsz z)) (Nat.lt_irrefl _)
    · rcases List.mem_cons.mp (I.stkSub b z) with z | z
      · exact (hfp b hb).1.2.1 z
      · exact (hfp b hb).1.2.2.1 z
  refine ⟨okB, rfl, hG, Un.kept kp, ⟨m0, by show Heap.Ns _ cenv.locals _; rw [hL]; exact hns, fun i y av e1 e2 e3 => ?_⟩, fun y c e => ?_, ?_, fun y c e => ?_, fun p hp => ?_, I.hok.kept kp, by rw [wipe_length]; exact I.len⟩
  · obtain ⟨e2, hne⟩ := wipe_some e2
    have hfr : scope.names.lookup y = some .free := by
      have e3 : Vis cenv.scope y := e3
      rw [hsc] at e3
      have no : ∀ k', scope.names.lookup y = some k' → ¬ (k' = .local ∨ k' = .cell) := fun k' e hh => by
        rcases ok.own _ (PySem.mem_of_lookup e) hh with e' | e'
        · obtain ⟨p, hp, hpy⟩ := List.mem_map.mp e'
          have e3 := ok.ix p hp
          have : p.1 = y := hpy
          rw [this] at e3
          exact hne (List.mem_map.mpr ⟨p, hp, nodup_ix hN e3 e1⟩)
        · exact e' (List.mem_of_getElem? e1)
      rcases e3 with e3 | e3 | e3
      · exact absurd (.inl rfl) (no _ e3)
      · exact absurd (.inr rfl) (no _ e3)
      · exact e3
    obtain ⟨m, hn, hl⟩ := I.loc
    have hvis : Vis X.env.scope y := (ok.free _ (PySem.mem_of_lookup hfr) rfl).elim (fun k => .inr (.inl k)) (fun k => .inr (.inr k))
    obtain ⟨w, r, q⟩ := hl i y av e1 e2 hvis
    refine ⟨w, r, .inr ⟨.inr (by show cenv.kindOf y = _; unfold Env.kindOf; rw [hsc]; exact hfr), ?_⟩⟩
    obtain ⟨c, h1, h2⟩ := look hfr
    rcases q with ⟨k, _⟩ | ⟨_, c', e', z⟩
    · have k : X.env.scope.names.lookup y = some .local := k
      rcases ok.free _ (PySem.mem_of_lookup hfr) rfl with k' | k' <;> rw [show X.env.scope.names.lookup y = _ from k'] at k <;> cases k
    · rw [h2] at e'; cases e'
      exact ⟨c, h1, z.keeps kp⟩
  · obtain ⟨w, z⟩ := I.cell y c (mem e).1
    exact ⟨w, z.keeps kp⟩
  · show H cenv.locals = none
    rw [hL]; exact I.hok.fresh (Nat.le_refl _)
  · exact I.freeC y c (mem e).1
  · have hp : p ∈ pg := by simpa using hp
    obtain ⟨h1, h2, h3⟩ := hpg p hp
    refine ⟨h1, I.hok.fresh (Nat.le_of_lt h2), by show p.1 ≠ cenv.locals; rw [hL]; exact Nat.ne_of_gt h2, fun z => ?_, h3⟩
    have : p.1 ∈ frs X.stack := z
    rcases List.mem_cons.mp (I.stkSub _ this) with z | z
    · have := I.lt
      rw [z] at h2
      exact absurd (Nat.lt_trans h2 this) (Nat.lt_irrefl _)
    · exact I.nofs (Nat.le_of_lt h2) z
theorem inv_gens (I : Inv X pins σ H s) {G : Array GenState} {t : Nat} (h : AllBare G) : Inv X pins σ H { s with gens := G, toks := t } :=
  ⟨I.ok, I.os, h, I.base, I.loc, I.cell, I.free, I.freeC, I.pin, I.hok, I.len⟩
theorem bare_set {G : Array GenState} {g : Nat} {x : GenState} (h : AllBare G) (hx : x.bare = true) : AllBare (G.setIfInBounds g x) := fun y hy => by
  rcases Array.mem_or_eq_of_mem_setIfInBounds hy with h1 | h1
  · exact h y h1
  · rw [h1]; exact hx
/-- what the generator is to reach -/
def tAny (P : Addr) (sv : Bool) (wi : TI) (g : TG) (te : TE) (vs : List Nat) : TE := fun σ H Q => wi σ H fun J H1 => GxR.TabG H1 P ∧ ∀ H2, GxR.Tabbed P H1 H2 → ∃ W : Nat → Nat → Hp → Prop, (∃ m, W 0 m H2) ∧ ∀ i m H, W i m H →
  (J.stop i H ∧ Q (.bl (!sv)) H) ∨ (J.go i H ∧ ∃ Nx : Hp → Prop, (∀ H', Nx H' → ∃ m', m' < m ∧ W (i + 1) m' H') ∧ ∀ x H', J.yld i H x H' → g x (wipe σ vs) H' fun σ2 H2 => wipe σ2 vs = wipe σ vs ∧ te σ2 H2 fun y H3 => ∃ b : Bool, y = .bl b ∧ if b = sv then Q (.bl sv) H3 else Nx H3)
/-- a generator that is walked by any, all: its end, an item handed out -/
def gP (X' : Cx) (pg : List (Addr × Obj)) (τ : L2.St) (fp : List Addr) (gN : Nat) (sv : Bool) (Q : VK) : Nat → Shared → Shared → Prop := fun _ _ s =>
  ∃ H, Inv X' pg τ H s ∧ (∀ b ∈ fp, H b = none) ∧ gN < s.gens.size ∧ Q (.bl (!sv)) H
abbrev gR (X' : Cx) (pg : List (Addr × Obj)) (τ : L2.St) (fp : List Addr) (gN : Nat) (sv : Bool) (Q : VK) : GenEnd := fun n s₀ r s => r = .ok .next ∧ gP X' pg τ fp gN sv Q n s₀ s
def gY (X' : Cx) (pg : List (Addr × Obj)) (τ : L2.St) (fp : List Addr) (tn : Nat → Heap → Prop) (W : Nat → Nat → Hp → Prop) (gN : Nat) (sv : Bool) (Q : VK) : Protocol := fun n _ v s kap =>
  ∃ (b : Bool) (H : Hp) (i : Nat), v = .bool b ∧ Inv X' pg τ H s ∧ (∀ b ∈ fp, H b = none) ∧ gN < s.gens.size ∧ tn (i + 1) s.heap ∧ if b = sv then Q (.bl sv) H else ∃ m, m < n ∧ W (i + 1) m H ∧
    ∀ s'' : Shared, Inv X' pg τ H s'' → tn (i + 1) s''.heap → gN < s''.gens.size → kap (.send .none) s''
abbrev gE (elt tg iter : Expr) (scope : Scope) (pos : Pos) : Expr := .GeneratorExp elt [⟨tg, iter, [], 0⟩] scope pos
theorem gen_loop {A0 : Around} {fp : List Addr} {pg : List (Addr × Obj)} {τ : L2.St} {tg elt iter : Expr} {scope : Scope} {pos : Pos} {it : Addr} {tn : Nat → Heap → Prop} {J : It} {W : Nat → Nat → Hp → Prop} {gN : Nat} {sv : Bool} {Q : VK} {g : TG} {te : TE} {vs : List Nat}
    (hc : X.calm = true) (hxe : X.xe = fun _ _ => False) (hA : X.A = A0.deeper X.env) (hpn : X.pn = []) (hex : X.ex = fp) (hτ : τ = wipe σ vs) (hco : X.env.scope.isCoroutine = false) (T : Turn X.prog X.w X.K tg J fp it tn) (hpg : ∀ p ∈ pg, ∀ b ∈ fp, p.1 ≠ b) (pG : PG X tg g) (pE : PE X elt te)
    (turn : ∀ i m H, W i m H → (J.stop i H ∧ Q (.bl (!sv)) H) ∨ (J.go i H ∧ ∃ Nx : Hp → Prop, (∀ H', Nx H' → ∃ m', m' < m ∧ W (i + 1) m' H') ∧ ∀ x H', J.yld i H x H' → g x (wipe σ vs) H' fun σ2 H2 => wipe σ2 vs = wipe σ vs ∧ te σ2 H2 fun y H3 => ∃ b : Bool, y = .bl b ∧ if b = sv then Q (.bl sv) H3 else Nx H3)) :
    ∀ (n m i : Nat) (s₀ s : Shared) (H : Hp), m < n → W i m H → Inv X pg τ H s → tn i s.heap → (∀ b ∈ fp, H b = none) → gN < s.gens.size →
      Seg (model X.prog X.w) A0 (gR X pg τ fp gN sv Q) (gY X pg τ fp tn W gN sv Q) n s₀ (.compLoop (gE elt tg iter scope pos) 0 (.ref it) .none X.env) ((model X.prog X.w).den (.compLoop (gE elt tg iter scope pos) 0 (.ref it) .none X.env)) [] s := by
  subst hτ
  have stat : ∀ {σ' : L2.St} {H' : Hp} {s' : Shared}, Inv X pg σ' H' s' → (∀ b ∈ fp, H' b = none) → ∀ b ∈ fp, FpOk X pg H' b := fun {σ' H' s'} I' hn b hb =>
    ⟨hn b hb, (I'.ok.exf b (hex ▸ hb)).1, I'.ok.exfs b (hex ▸ hb), .inl (hex ▸ hb), fun x c e => (I'.ok.exf b (hex ▸ hb)).2 x c e, fun p hp => hpg p (by rw [hpn] at hp; simpa using hp) b hb⟩
  have key : ∀ (n : Nat), (∀ n', n = n' + 1 → ∀ (m i : Nat) (s₀ s : Shared) (H : Hp), m < n' → W i m H → Inv X pg (wipe σ vs) H s → tn i s.heap → (∀ b ∈ fp, H b = none) → gN < s.gens.size →
      Seg (model X.prog X.w) A0 (gR X pg (wipe σ vs) fp gN sv Q) (gY X pg (wipe σ vs) fp tn W gN sv Q) n' s₀ (.compLoop (gE elt tg iter scope pos) 0 (.ref it) .none X.env) ((model X.prog X.w).den (.compLoop (gE elt tg iter scope pos) 0 (.ref it) .none X.env)) [] s) →
      ∀ (m i : Nat) (s₀ s : Shared) (H : Hp), m < n → W i m H → Inv X pg (wipe σ vs) H s → tn i s.heap → (∀ b ∈ fp, H b = none) → gN < s.gens.size →
      Seg (model X.prog X.w) A0 (gR X pg (wipe σ vs) fp gN sv Q) (gY X pg (wipe σ vs) fp tn W gN sv Q) n s₀ (.compLoop (gE elt tg iter scope pos) 0 (.ref it) .none X.env) ((model X.prog X.w).den (.compLoop (gE elt tg iter scope pos) 0 (.ref it) .none X.env)) [] s := by
    intro n ih m i s₀ s H hm w I st nf hg
    show Seg _ A0 _ _ _ s₀ _ ((compTurn (gE elt tg iter scope pos) 0 (.ref it) .none X.env).onRaise (leaving X.env)) [] s
    rw [compTurn_gen, Sem.onRaise_eq_wrap]
    refine seg_bind_wrap (wpAny_standAt ?_)
    rcases turn i m H w with ⟨stop, qq⟩ | ⟨go, Nx, hNx, step⟩
    · have td := T.done X rfl rfl rfl hc i pg s _ H (fun _ _ => False) I (stat I nf) st stop
      refine seg_bind_wrap ?_
      rw [over_gen, ← hA]
      refine GenW.wpAny_gsz (n := gN + 1) hg (wpAny_mono td (fun r s1 h1 hz => ?_) fun _ _ z => z.elim)
      obtain ⟨rfl, I1⟩ := h1
      exact seg_end (.ok .next) ⟨rfl, H, I1, nf, hz, qq⟩
    · have ti := T.item X rfl rfl rfl hc i pg s _ H (fun _ _ => False) I (stat I nf) st go
      refine seg_bind_wrap ?_
      rw [over_gen, ← hA]
      refine GenW.wpAny_gsz (n := gN + 1) hg (wpAny_mono ti (fun r s1 h1 hz1 => ?_) fun _ _ z => z.elim)
      obtain ⟨u, rfl, h6⟩ := h1
      refine seg_bind_wrap ?_
      rw [over_gen, ← hA]
      refine GenW.wpAny_gsz (n := gN + 1) hz1 (wpAny_mono h6 (fun _ s2 h2 hz2 => ?_) fun _ _ z => z.elim)
      obtain ⟨x, H2, I2, r2, y2, st2, n2⟩ := h2
      have I2' := I2.pinned (stat I2 n2) (T.obj _ _ st2)
      refine seg_bind_wrap ?_
      rw [over_gen, ← hA]
      have pg1 := pG.run _ s2 _ H2 x u _ I2' r2 (step x H2 y2)
      rw [hxe] at pg1
      refine GenW.wpAny_gsz (n := gN + 1) hz2 (wpAny_mono pg1 (fun _ s3 h3 hz3 => ?_) fun _ _ z => z.elim)
      obtain ⟨σ3, H3, I3, hw3, q3⟩ := h3
      refine seg_bind_wrap (wpAny_tests_nil ?_)
      have hy : ∀ v, yieldOut X.env v = yieldValue v := fun v => by simp only [yieldOut, hco, Bool.false_eq_true, if_false]
      simp only [if_true, hy]
      rw [Sem.bind_eq_wrap', Sem.bind_eq_wrap', Sem.wrap_wrap, Sem.wrap_wrap]
      refine seg_wrap ?_
      rw [over_gen, ← hA]
      have pe1 := pE.run _ s3 σ3 H3 _ I3 q3
      rw [hxe] at pe1
      refine GenW.wpAny_gsz (n := gN + 1) hz3 (wpAny_mono pe1 (fun z s4 h4 hz4 => ?_) fun _ _ z => z.elim)
      obtain ⟨yv, H4, I4, r4, b, rfl, q4⟩ := h4
      cases (show z = Value.bool b from r4)
      have pin' : ∀ b ∈ fp, ∀ o, s2.heap.get? b = some o → s4.heap.get? b = some o ∧ H4 b = none := fun b hb o e =>
        let z := I4.pin (b, o) (List.mem_append_right _ (List.mem_append_right _ (mem_pinsAt hb e)))
        ⟨z.1, z.2.1⟩
      have hl : (wipe σ vs).length = σ3.length := by rw [← hw3, wipe_length]
      have I5 : Inv X pg (wipe σ vs) H4 s4 := (I4.unpinned (pins := pg)).weak hl fun j v e => by
        rw [← hw3] at e
        exact (wipe_some e).1
      have st4 : tn (i + 1) s4.heap := T.keep _ _ _ st2 fun b hb o e => (pin' b hb o e).1
      have n4 : ∀ b ∈ fp, H4 b = none := fun b hb => by
        obtain ⟨o, e, _⟩ := T.obj _ _ st2 b hb
        exact (pin' b hb o e).2
      have hpos : ∃ n', n = n' + 1 := by
        cases n with
        | succ n' => exact ⟨n', rfl⟩
        | zero => omega
      obtain ⟨n', rfl⟩ := hpos
      refine seg_at (seg_yield rfl rfl rfl ?_)
      refine ⟨b, H4, i, rfl, I5, n4, hz4, st4, ?_⟩
      by_cases hb : b = sv
      · rw [if_pos hb]
        rw [if_pos hb] at q4
        exact q4
      · rw [if_neg hb]
        rw [if_neg hb] at q4
        obtain ⟨m', hm', w'⟩ := hNx _ q4
        refine ⟨m', by omega, w', fun s'' I'' st'' hg'' => ?_⟩
        exact seg_again rfl (ih n' rfl m' (i + 1) s'' s'' H4 (by omega) w' I'' st'' n4 hg'')
  intro n
  induction n with
  | zero => exact key 0 fun n' e => by cases e
  | succ n ih => exact key (n + 1) fun n' e => by cases e; exact ih
theorem set_gens (s : Shared) (g : Nat) (x : GenState) : s.setGen g x = { s with gens := s.gens.setIfInBounds g x } := rfl
/-- one item of it, or its end -/
theorem gen_next {A : Around} {fp : List Addr} {a : Addr} {go : Obj} {τ : L2.St} {tn : Nat → Heap → Prop} {W : Nat → Nat → Hp → Prop} {gN n : Nat} {sv : Bool} {Q : VK} {gs : GenState}
    (hh : A.handled = none) (hroom : A.depth < recursionLimit) (hgo : ∀ h : Heap, h.get? a = some go → h.IsGen a gN) (hl : s.heap.NoLimit) (ha : s.heap.get? a = some go) (hgs : s.gens[gN]? = some gs)
    (G : gs.Goes (model X.prog X.w) A.in1 (gR X [(a, go)] τ fp gN sv Q) (gY X [(a, go)] τ fp tn W gN sv Q) n (.send .none) (s.setGen gN .running)) :
    wpAny (model X.prog X.w) A (pyNext (.ref a)) (fun r s' => match r with
      | none => ∃ H, Inv X [(a, go)] τ H s' ∧ (∀ b ∈ fp, H b = none) ∧ Q (.bl (!sv)) H
      | some v => ∃ b : Bool, v = .bool b ∧ if b = sv then ∃ H, Inv X [(a, go)] τ H s' ∧ (∀ b ∈ fp, H b = none) ∧ Q (.bl sv) H else
          ∃ n' gs', n' < n ∧ s'.heap.NoLimit ∧ s'.heap.get? a = some go ∧ s'.gens[gN]? = some gs' ∧ gs'.Goes (model X.prog X.w) A.in1 (gR X [(a, go)] τ fp gN sv Q) (gY X [(a, go)] τ fp tn W gN sv Q) n' (.send .none) (s'.setGen gN .running)) (fun _ _ => False) s := by
  have pin : ∀ {H : Hp} {s' : Shared}, Inv X [(a, go)] τ H s' → s'.heap.get? a = some go := fun I => (I.pin (a, go) (List.mem_append_right _ List.mem_cons_self)).1
  refine wpAny_pyNext_genexpQ (P := gP X [(a, go)] τ fp gN sv Q) hh hl hroom (hgo _ ha) hgs G (fun v s₁ gs' hb y => ?_) (fun s₁ hp h' hk => ?_)
  · obtain ⟨b, H, i, rfl, I, nf, hz, st, y⟩ := y
    have I' : Inv X [(a, go)] τ H (s₁.setGen gN gs') := inv_gens I (t := s₁.toks) (bare_set I.bare hb)
    refine ⟨b, rfl, ?_⟩
    by_cases hbv : b = sv
    · rw [if_pos hbv] at y ⊢
      exact ⟨H, I', nf, y⟩
    · rw [if_neg hbv] at y ⊢
      obtain ⟨m, hm, w, y⟩ := y
      cases n with
      | zero => omega
      | succ n =>
        refine ⟨n, gs', Nat.lt_succ_self n, I'.nolimit, pin I', by rw [set_gens]; simp [hz], ?_⟩
        exact y _ (inv_gens I' (t := s₁.toks) (bare_set I'.bare rfl)) st (by rw [set_gens, set_gens]; simpa using hz)
  · obtain ⟨H, I, nf, hz, q⟩ := hp
    have I' : Inv X [(a, go)] τ H { s₁.setGen gN .finished with heap := h' } := (inv_gens I (t := s₁.toks) (bare_set (g := gN) (x := .finished) I.bare rfl)).kept (t' := s₁.toks) hk
    exact ⟨H, I', nf, q⟩
/-- what any, all ask of the generator, again and again -/
theorem any_loopG {A : Around} {fp : List Addr} {a : Addr} {go : Obj} {τ : L2.St} {tn : Nat → Heap → Prop} {W : Nat → Nat → Hp → Prop} {gN : Nat} {Q : VK} {R : Result → Shared → Prop}
    (hh : A.handled = none) (hroom : A.depth < recursionLimit) (hgo : ∀ h : Heap, h.get? a = some go → h.IsGen a gN) (hR : ∀ b H s', Inv X [(a, go)] τ H s' → (∀ b ∈ fp, H b = none) → Q (.bl b) H → R (.ok (.ret (.bool b))) s') :
    ∀ (n : Nat) (s : Shared) (gs : GenState), s.heap.NoLimit → s.heap.get? a = some go → s.gens[gN]? = some gs →
      gs.Goes (model X.prog X.w) A.in1.in1 (gR X [(a, go)] τ fp gN true Q) (gY X [(a, go)] τ fp tn W gN true Q) n (.send .none) (s.setGen gN .running) →
      codeAny (model X.prog X.w) A (.builtin "any.loop" ⟨[.ref a], []⟩) R s := by
  intro n
  induction n using Nat.strongRecOn with
  | _ n ih =>
    intro s gs hl ha hgs G
    refine codeAny_builtin F.entry_any_loop ?_
    rw [Around.under_plainId F.plain_any_loop _]
    show wpAny _ A.in1 (pyNext (.ref a) >>= _) _ _ s
    refine wpAny_bind (wpAny_mono (gen_next (A := A.in1) hh hroom hgo hl ha hgs G) (fun r s' h => ?_) fun _ _ z => z.elim)
    cases r with
    | none =>
      obtain ⟨H, I, nf, q⟩ := h
      exact wpAny_bind (wpAny_rule (wpAny_pure (hR false H s' I nf q)))
    | some v =>
      obtain ⟨b, rfl, h⟩ := h
      refine wpAny_bind (wpAny_holding (wpAny_truthy_bool ?_))
      refine wpAny_bind (wpAny_letGo ?_)
      cases b with
      | true =>
        rw [if_pos rfl] at h
        obtain ⟨H, I, nf, q⟩ := h
        simp only [if_true]
        exact wpAny_bind (wpAny_rule (wpAny_pure (hR true H s' I nf q)))
      | false =>
        rw [if_neg (by simp)] at h
        obtain ⟨n', gs', hn, hl', ha', hgs', G'⟩ := h
        simp only [Bool.false_eq_true, if_false]
        exact wpAny_pure ⟨plainId_quiet F.plain_any_loop _, ih n' hn s' gs' hl' ha' hgs' G'⟩
theorem all_loopG {A : Around} {fp : List Addr} {a : Addr} {go : Obj} {τ : L2.St} {tn : Nat → Heap → Prop} {W : Nat → Nat → Hp → Prop} {gN : Nat} {Q : VK} {R : Result → Shared → Prop}
    (hh : A.handled = none) (hroom : A.depth < recursionLimit) (hgo : ∀ h : Heap, h.get? a = some go → h.IsGen a gN) (hR : ∀ b H s', Inv X [(a, go)] τ H s' → (∀ b ∈ fp, H b = none) → Q (.bl b) H → R (.ok (.ret (.bool b))) s') :
    ∀ (n : Nat) (s : Shared) (gs : GenState), s.heap.NoLimit → s.heap.get? a = some go → s.gens[gN]? = some gs →
      gs.Goes (model X.prog X.w) A.in1.in1 (gR X [(a, go)] τ fp gN false Q) (gY X [(a, go)] τ fp tn W gN false Q) n (.send .none) (s.setGen gN .running) →
      codeAny (model X.prog X.w) A (.builtin "all.loop" ⟨[.ref a], []⟩) R s := by
  intro n
  induction n using Nat.strongRecOn with
  | _ n ih =>
    intro s gs hl ha hgs G
    refine codeAny_builtin F.entry_all_loop ?_
    rw [Around.under_plainId F.plain_all_loop _]
    show wpAny _ A.in1 (pyNext (.ref a) >>= _) _ _ s
    refine wpAny_bind (wpAny_mono (gen_next (A := A.in1) hh hroom hgo hl ha hgs G) (fun r s' h => ?_) fun _ _ z => z.elim)
    cases r with
    | none =>
      obtain ⟨H, I, nf, q⟩ := h
      exact wpAny_bind (wpAny_rule (wpAny_pure (hR true H s' I nf q)))
    | some v =>
      obtain ⟨b, rfl, h⟩ := h
      refine wpAny_bind (wpAny_holding (wpAny_truthy_bool ?_))
      refine wpAny_bind (wpAny_letGo ?_)
      cases b with
      | false =>
        rw [if_pos rfl] at h
        obtain ⟨H, I, nf, q⟩ := h
        simp only [Bool.false_eq_true, if_false]
        exact wpAny_bind (wpAny_rule (wpAny_pure (hR false H s' I nf q)))
      | true =>
        rw [if_neg (by simp)] at h
        obtain ⟨n', gs', hn, hl', ha', hgs', G'⟩ := h
        simp only [if_true]
        exact wpAny_pure ⟨plainId_quiet F.plain_all_loop _, ih n' hn s' gs' hl' ha' hgs' G'⟩
/-- a generator expression is made: all that any, all need of it -/
theorem gen_ready {j k : Nat} {c P : Addr} {elt tg iter : Expr} {scope : Scope} {own : List (Str × Nat)} {gpos : Pos} {wi : TI} {g : TG} {te : TE} {sv : Bool} {Q : VK} {Q' : Value → Shared → Prop} {A0 : Around}
    (hc : X.calm = true) (hr : Room k X.A) (hN : X.N.Nodup) (TB : GxR.TabB X.base X.mg c P) (hcode : X.env.code = .ref c) (ok : BlkOk X.N X.env.scope scope own) (hcell : ∀ y ∈ scope.names, y.2 ≠ .cell) (hdot : scope.names.lookup (".0" : Str) = some NameKind.local) (hco : scope.isCoroutine = false)
    (hi : PI X tg iter wi) (hs : ∀ v, genFold iter X.env v = pure v)
    (pG : ∀ (A' : Around) (s : Shared) (H : Hp) (C : Addr) (cl : List (Str × Addr)) (code : Value) (fp : List Addr), Room j A' → PG (gCx X A' s H (genEnv scope cl C code builtinsNs X.env) fp) tg g)
    (pE : ∀ (A' : Around) (s : Shared) (H : Hp) (C : Addr) (cl : List (Str × Addr)) (code : Value) (fp : List Addr), Room j A' → PE (gCx X A' s H (genEnv scope cl C code builtinsNs X.env) fp) elt te)
    (hA0 : A0.handled = none) (hfr0 : A0.frames = some X.stack) (hj : ∀ env, Room j (A0.deeper env))
    (I : Inv X pins σ H s) (h : tAny P sv wi g te (own.map (·.2)) σ H Q)
    (hQ : ∀ (X' : Cx) (a : Addr) (go : Obj) (gN n : Nat) (s5 : Shared) (fp : List Addr) (tn : Nat → Heap → Prop) (W : Nat → Nat → Hp → Prop) (gs : GenState), X'.prog = X.prog → X'.w = X.w → (∀ h : Heap, h.get? a = some go → h.IsGen a gN) → s5.heap.NoLimit → s5.heap.get? a = some go → s5.gens[gN]? = some gs →
      gs.Goes (model X'.prog X'.w) A0 (gR X' [(a, go)] (wipe σ (own.map (·.2))) fp gN sv Q) (gY X' [(a, go)] (wipe σ (own.map (·.2))) fp tn W gN sv Q) n (.send .none) (s5.setGen gN .running) →
      (∀ H' s', Inv X' [(a, go)] (wipe σ (own.map (·.2))) H' s' → Inv X pins σ H' s') → Q' (.ref a) s5) :
    wpAny (model X.prog X.w) X.A (eval (gE elt tg iter scope gpos) X.env) Q' X.xe s := by
  have hfree : ∀ y ∈ scope.names, y.2 = .free → ∃ c, X.env.cells.lookup y.1 = some c := fun y hy e => by
    rcases ok.free y hy e with k | k
    · exact I.ok.has _ (.inl k)
    · exact I.ok.has _ (.inr k)
  refine wpAny_GeneratorExp_make hco (closure_ok hfree) hcell hdot ok.kind (by have := hr.dp; omega) ?_ hs
  refine thn (hi.run pins s σ H _ I h) fun xv s1 hx => thn hx fun itv s2 h2 => ?_
  obtain ⟨it, fp, tn, J, H2, rfl, I2, T, st2, f2, ⟨ps, hP, ht⟩, q⟩ := h2
  have hPs : s2.heap.get? P = some { cls := .none, data := .fields ps } := I2.hok P _ hP
  have cd : PySem.W.CodeHd s2.heap c P := TB.code.keeps fun b u e => I2.bk b u e
  have lim2 : s2.heap.NoLimit := I2.nolimit
  have nP : ∀ b ∈ fp, b ≠ P := fun b hb e => by
    have := (f2 b hb).1
    rw [e, hP] at this
    cases this
  refine ⟨lim2, ?_⟩
  have cont : ∀ (code : Value) (h3 : Heap) (tk : Nat) (ps' : Array Value), Heap.ExtBut P s2.heap h3 → s2.heap.objs.size ≤ h3.objs.size → h3.get? P = some { cls := .none, data := .fields ps' } → (∃ more, ps' = ps ++ more) → TriplesOk ps'.toList →
      wpAny (model X.prog X.w) X.A (builtinsFor X.env.globals X.env.builtins) (fun bi s₄ =>
        ∀ h', h'.Ns s₄.heap.objs.size (fun y => if y = ".0" then some (.ref it) else none) → Heap.SameBut s₄.heap.objs.size (s₄.heap.push { cls := .type "frame", data := .dict #[] }) h' →
          Q' (.ref h'.objs.size) { s₄ with
            gens := s₄.gens.push (.fresh (.compStart (gE elt tg iter scope gpos) 0 (.ref it) .none (genEnv scope (cloFrom X.env.cells scope.names []) s₄.heap.objs.size code bi X.env))),
            toks := s₄.toks + 1 + 1 + 1,
            heap := h'.push { cls := .type "generator", data := .fields #[.int s₄.gens.size 0, .str "<genexpr>" (s₄.toks + 1), .str (X.env.qual ++ "<genexpr>") (s₄.toks + 1 + 1)] } }) X.xe { s2 with heap := h3, toks := tk } := by
    intro code h3 tk ps' hx hsz hP3 hmore ht3
    obtain ⟨more, em⟩ := hmore
    obtain ⟨bm, ob, e1, e2, e3, e4, e5, e6, e7, e8⟩ := TB.bm
    have keep3 : ∀ b u, b ≠ P → s2.heap.get? b = some u → h3.get? b = some u := fun b u hb e => hx b u hb e
    refine wpAny_builtinsFor (m := X.mg) (by rw [I2.ok.glob]; exact (I2.mod.glob.keeps I2.bk).extBut hx TB.gP) e1 e2 (keep3 _ _ e4 (I2.bk _ _ e5)) e6 e7 e8 ?_
    intro h' hn' hs'
    have I3 : Inv X pins σ (upd H2 P (.tbl ps')) { s2 with heap := h3, toks := tk } := by
      rw [em]
      exact GxR.inv_tab (more := more) (g' := s2.gens) (d' := s2.drawn) (t' := tk) I2 hP keep3 (by rw [← em]; exact hP3) I2.bare
    have hsz' : h'.objs.size = h3.objs.size + 1 := by rw [hs'.1, Heap.size_push]
    have keep' : ∀ b o, h3.get? b = some o → h'.get? b = some o := fun b o e => hs'.extBut b o (Nat.ne_of_lt (Heap.lt_size e)) (Heap.get?_push_of_some _ e)
    generalize hgo : ({ cls := .type "generator", data := .fields #[.int s2.gens.size 0, .str "<genexpr>" (tk + 1), .str (X.env.qual ++ "<genexpr>") (tk + 1 + 1)] } : Obj) = go
    have kp : ∀ b o, h3.get? b = some o → (h'.push go).get? b = some o := fun b o e => Heap.get?_push_of_some _ (keep' b o e)
    have n3 : ∀ b ∈ fp, (upd H2 P (.tbl ps')) b = none := fun b hb => by rw [upd_ne (nP b hb)]; exact (f2 b hb).1
    have lt3 : ∀ b ∈ fp, b < h3.objs.size := fun b hb => by
      obtain ⟨o, e, _⟩ := T.obj _ _ st2 b hb
      exact Heap.lt_size (keep3 b o (nP b hb) e)
    have f3 : ∀ b ∈ fp, FpOk X pins (upd H2 P (.tbl ps')) b ∧ b < h3.objs.size := fun b hb => ⟨⟨n3 b hb, (f2 b hb).2⟩, lt3 b hb⟩
    obtain ⟨W, ⟨m0, w0⟩, turn⟩ := q (upd H2 P (.tbl ps')) ⟨⟨ps', upd_same, ht3⟩, fun b hb => upd_ne hb⟩
    have I5 := gx_start (A' := A0.deeper (genEnv scope (cloFrom X.env.cells scope.names []) h3.objs.size code builtinsNs X.env)) (code := code) (bi := builtinsNs) (h' := h'.push go) (G' := s2.gens.push (.fresh (.compStart (gE elt tg iter scope gpos) 0 (.ref it) .none (genEnv scope (cloFrom X.env.cells scope.names []) h3.objs.size code builtinsNs X.env)))) (tk := tk + 1 + 1 + 1) (pg := [(h'.objs.size, go)])
      I3 ok hcell hN f3 hA0 (Around.frames_deeper hfr0) rfl kp (hn'.push _) (I2.bare.push rfl) (fun p hp => by
        have : p = (h'.objs.size, go) := by simpa using hp
        subst this
        refine ⟨Heap.get?_push_size _ (by rw [← hgo]; rfl), by show h3.objs.size < h'.objs.size; omega, fun v e => ?_⟩
        rw [← hgo] at e
        cases e)
    have st5 : tn 0 (h'.push go) := T.keep _ _ _ st2 fun b hb o e => kp b o (keep3 b o (nP b hb) e)
    refine hQ (gCx X (A0.deeper (genEnv scope (cloFrom X.env.cells scope.names []) h3.objs.size code builtinsNs X.env)) { s2 with heap := h3, toks := tk } (upd H2 P (.tbl ps')) (genEnv scope (cloFrom X.env.cells scope.names []) h3.objs.size code builtinsNs X.env) fp) h'.objs.size go s2.gens.size (m0 + 1) _ fp tn W _ rfl rfl (fun h e => by rw [← hgo] at e; exact ⟨_, _, _, e, rfl, rfl, rfl⟩) (I5.nolimit) (Heap.get?_push_size _ (by rw [← hgo]; rfl)) (Array.getElem?_push_size ..) ⟨rfl, ?_⟩ fun H' s' I' => ?_
    · have I6 := inv_gens I5 (t := tk + 1 + 1 + 1) (bare_set (g := s2.gens.size) (x := .running) I5.bare rfl)
      have loop := gen_loop (A0 := A0) (fp := fp) (pg := [(h'.objs.size, go)]) (iter := iter) (scope := scope) (pos := gpos) (tn := tn) (J := J) (W := W) (gN := s2.gens.size) (sv := sv) (Q := Q) (σ := σ) (vs := own.map (·.2)) (X := gCx X (A0.deeper (genEnv scope (cloFrom X.env.cells scope.names []) h3.objs.size code builtinsNs X.env)) { s2 with heap := h3, toks := tk } (upd H2 P (.tbl ps')) (genEnv scope (cloFrom X.env.cells scope.names []) h3.objs.size code builtinsNs X.env) fp)
        hc rfl rfl rfl rfl rfl hco T (fun p hp b hb e => by
          have : p = (h'.objs.size, go) := by simpa using hp
          subst this
          have h9 : (h'.objs.size : Nat) < h3.objs.size := by
            have e : h'.objs.size = b := e
            rw [e]
            exact lt3 b hb
          omega) (pG _ _ _ _ _ _ _ (hj _)) (pE _ _ _ _ _ _ _ (hj _)) turn (m0 + 1) m0 0
      generalize hs5 : Shared.setGen _ s2.gens.size GenState.running = s5
      have hs5' := hs5
      rw [set_gens] at hs5'
      have I7 : Inv (gCx X (A0.deeper (genEnv scope (cloFrom X.env.cells scope.names []) h3.objs.size code builtinsNs X.env)) { s2 with heap := h3, toks := tk } (upd H2 P (.tbl ps')) (genEnv scope (cloFrom X.env.cells scope.names []) h3.objs.size code builtinsNs X.env) fp) [(h'.objs.size, go)] (wipe σ (own.map (·.2))) (upd H2 P (.tbl ps')) s5 := by
        rw [← hs5']
        exact I6
      have st7 : tn 0 s5.heap := by rw [← hs5']; exact st5
      have sz7 : s2.gens.size < s5.gens.size := by rw [← hs5']; simp
      have loop := loop s5 s5 _ (Nat.lt_succ_self _) w0 I7 st7 n3 sz7
      clear hs5 hs5' I6
      show Seg _ A0 _ _ _ s5 _ ((compStart (gE elt tg iter scope gpos) 0 (.ref it) .none _).onRaise (leaving _)) [] s5
      unfold compStart
      rw [Sem.onRaise_eq_wrap]
      show Seg _ A0 _ _ _ s5 _ ((ask >>= _).wrap _ _ _ _) [] s5
      refine seg_bind_wrap (wpAny_askSetting ?_)
      split
      · exact seg_again rfl loop
      · first
          | exact seg_bind_wrap (wpAny_rule (seg_bind_wrap (wpAny_standAt (seg_bind_wrap (T.self _ 0 s5 _ _ st7 (seg_again rfl loop))))))
          | (refine seg_bind_wrap (wpAny_rule ?_); show Seg _ A0 _ _ _ s5 _ ((standAt iter.pos >>= _).wrap _ _ _ _) [] s5; exact seg_bind_wrap (wpAny_standAt (seg_bind_wrap (T.self _ 0 s5 _ _ st7 (seg_again rfl loop)))))
    · exact I3.call' (ch := fp) I'.os I'.base I'.hok I'.bare fun b hb => ⟨(f3 b hb).1.2.2.2.1, (f3 b hb).1.2.1, (f3 b hb).1.2.2.2.2.1, (f3 b hb).1.2.2.2.2.2⟩
  cases hf : codeAmong gpos ps.toList with
  | none =>
    refine wpAny_genexprCodeX hcode (cd.code hPs ht) (cd.tab hPs) hf fun c' h' tk hx hge hlt hco' _ htab' _ => ?_
    obtain ⟨o1, vs, f1, tf, fl, tg, inF, tx, tt, op, _, _, _, _, _, _, _, _, _, htr, _⟩ := hco'
    exact cont _ h' tk _ hx (Nat.le_trans hge (Nat.le_of_lt hlt)) htab'.2 ⟨_, rfl⟩ htr
  | some cv =>
    refine wpAny_genexprCode_hit hcode (cd.code hPs ht) hf ?_
    exact cont cv s2.heap s2.toks ps (Heap.ExtBut.refl _ _) (Nat.le_refl _) hPs ⟨#[], by simp⟩ ht
theorem room_in2d {k : Nat} {A : Around} (r : Room (k + 1) A) (env : PySem.Env) : Room k (A.in1.in1.deeper env) :=
  ⟨r.hd, by have := r.dp; show A.depth + 1 + 3 * k + 5 < _; omega, by have := r.un; show A.units + 1 + 1 + 3 + 16 * k + 200 < _; omega⟩
theorem pe_anyG {k : Nat} {c P : Addr} {elt tg iter : Expr} {scope : Scope} {own : List (Str × Nat)} {p pos gpos : Pos} {wi : TI} {g : TG} {te : TE}
    (hc : X.calm = true) (hr : Room (k + 1) X.A) (hN : X.N.Nodup) (hg : Gl X "any") (hm : X.mg "any" = none) (TB : GxR.TabB X.base X.mg c P) (hcode : X.env.code = .ref c) (ok : BlkOk X.N X.env.scope scope own) (hcell : ∀ y ∈ scope.names, y.2 ≠ .cell) (hdot : scope.names.lookup (".0" : Str) = some NameKind.local) (hco : scope.isCoroutine = false)
    (hi : PI X tg iter wi) (hs : ∀ v, genFold iter X.env v = pure v)
    (pG : ∀ (A' : Around) (s : Shared) (H : Hp) (C : Addr) (cl : List (Str × Addr)) (code : Value) (fp : List Addr), Room k A' → PG (gCx X A' s H (genEnv scope cl C code builtinsNs X.env) fp) tg g)
    (pE : ∀ (A' : Around) (s : Shared) (H : Hp) (C : Addr) (cl : List (Str × Addr)) (code : Value) (fp : List Addr), Room k A' → PE (gCx X A' s H (genEnv scope cl C code builtinsNs X.env) fp) elt te)
    (he : starEach [gE elt tg iter scope gpos] X.env = (false, eval (gE elt tg iter scope gpos) X.env) :: starEach [] X.env) :
    PE X (.Call (.Name "any" p) [gE elt tg iter scope gpos] [] pos) (tAny P true wi g te (own.map (·.2))) := by
  refine ⟨fun pins s σ H Q I h => ?_⟩
  refine wpAny_Call_Name_kw (ld_blt I hg hm boot_any ?_)
  refine PyProof.Rows.callWith_builtin1 ?_ he (by rfl)
  rw [he]
  show wpAny _ _ (spliced ((false, eval (gE elt tg iter scope gpos) X.env) :: backTo pos (starEach [] X.env))) _ _ s
  refine Calls.spliced_cons (gen_ready (A0 := X.A.in1.in1) hc (hr.mono (Nat.le_succ k)) hN TB hcode ok hcell hdot hco hi hs pG pE hr.hd I.ok.frames (fun env => room_in2d hr env) I h fun X' a go gN n s5 fp tn W gs e1 e2 hgo hl ha hgs G back => ?_)
  refine Calls.spliced_nil ?_
  refine call_function_tree PySem.F.kind_any PySem.F.plain_any PySem.F.entry_any (PySem.F.args_any1 _) ?_
  unfold Builtin.«any»
  refine wpAny_bind (m := oneArg "any" _) (wpAny_pure ?_)
  refine wpAny_bind (wpAny_pyIter_gen (hgo _ ha) ?_)
  have ha' : X.A.handled = none := hr.hd
  have hroom : X.A.depth < recursionLimit := by have := hr.dp; omega
  have hRR : ∀ b H s', Inv X' [(a, go)] (wipe σ (own.map (·.2))) H s' → (∀ b ∈ fp, H b = none) → Q (.bl b) H → (match (Except.ok (.ret (.bool b)) : Result) with | .ok (.ret v) => EP X pins σ Q v s' | .ok _ => False | .error e => X.xe e s') := fun b H s' I' _ q => ⟨.bl b, H, back H s' I', rfl, q⟩
  have := any_loopG (X := X') (A := X.A) (fp := fp) (a := a) (go := go) (tn := tn) (W := W) (gN := gN) (Q := Q) (R := fun r s' => match r with | .ok (.ret v) => EP X pins σ Q v s' | .ok _ => False | .error e => X.xe e s') ha' hroom hgo hRR n s5 gs hl ha hgs G
  rw [e1, e2] at this
  exact wpAny_pure ⟨plainId_quiet PySem.F.plain_any_loop _, this⟩
theorem pe_allG {k : Nat} {c P : Addr} {elt tg iter : Expr} {scope : Scope} {own : List (Str × Nat)} {p pos gpos : Pos} {wi : TI} {g : TG} {te : TE}
    (hc : X.calm = true) (hr : Room (k + 1) X.A) (hN : X.N.Nodup) (hg : Gl X "all") (hm : X.mg "all" = none) (TB : GxR.TabB X.base X.mg c P) (hcode : X.env.code = .ref c) (ok : BlkOk X.N X.env.scope scope own) (hcell : ∀ y ∈ scope.names, y.2 ≠ .cell) (hdot : scope.names.lookup (".0" : Str) = some NameKind.local) (hco : scope.isCoroutine = false)
    (hi : PI X tg iter wi) (hs : ∀ v, genFold iter X.env v = pure v)
    (pG : ∀ (A' : Around) (s : Shared) (H : Hp) (C : Addr) (cl : List (Str × Addr)) (code : Value) (fp : List Addr), Room k A' → PG (gCx X A' s H (genEnv scope cl C code builtinsNs X.env) fp) tg g)
    (pE : ∀ (A' : Around) (s : Shared) (H : Hp) (C : Addr) (cl : List (Str × Addr)) (code : Value) (fp : List Addr), Room k A' → PE (gCx X A' s H (genEnv scope cl C code builtinsNs X.env) fp) elt te)
    (hb : bootBuiltins "all" = some (.builtin "all"))
    (he : starEach [gE elt tg iter scope gpos] X.env = (false, eval (gE elt tg iter scope gpos) X.env) :: starEach [] X.env) :
    PE X (.Call (.Name "all" p) [gE elt tg iter scope gpos] [] pos) (tAny P false wi g te (own.map (·.2))) := by
  refine ⟨fun pins s σ H Q I h => ?_⟩
  refine wpAny_Call_Name_kw (ld_blt I hg hm hb ?_)
  refine PyProof.Rows.callWith_builtin1 ?_ he (by rfl)
  rw [he]
  show wpAny _ _ (spliced ((false, eval (gE elt tg iter scope gpos) X.env) :: backTo pos (starEach [] X.env))) _ _ s
  refine Calls.spliced_cons (gen_ready (A0 := X.A.in1.in1) hc (hr.mono (Nat.le_succ k)) hN TB hcode ok hcell hdot hco hi hs pG pE hr.hd I.ok.frames (fun env => room_in2d hr env) I h fun X' a go gN n s5 fp tn W gs e1 e2 hgo hl ha hgs G back => ?_)
  refine Calls.spliced_nil ?_
  refine call_function_tree PySem.F.kind_all PySem.F.plain_all PySem.F.entry_all (PySem.F.args_all1 _) ?_
  unfold Builtin.«all»
  refine wpAny_bind (m := oneArg "all" _) (wpAny_pure ?_)
  refine wpAny_bind (wpAny_pyIter_gen (hgo _ ha) ?_)
  have ha' : X.A.handled = none := hr.hd
  have hroom : X.A.depth < recursionLimit := by have := hr.dp; omega
  have hRR : ∀ b H s', Inv X' [(a, go)] (wipe σ (own.map (·.2))) H s' → (∀ b ∈ fp, H b = none) → Q (.bl b) H → (match (Except.ok (.ret (.bool b)) : Result) with | .ok (.ret v) => EP X pins σ Q v s' | .ok _ => False | .error e => X.xe e s') := fun b H s' I' _ q => ⟨.bl b, H, back H s' I', rfl, q⟩
  have := all_loopG (X := X') (A := X.A) (fp := fp) (a := a) (go := go) (tn := tn) (W := W) (gN := gN) (Q := Q) (R := fun r s' => match r with | .ok (.ret v) => EP X pins σ Q v s' | .ok _ => False | .error e => X.xe e s') ha' hroom hgo hRR n s5 gs hl ha hgs G
  rw [e1, e2] at this
  exact wpAny_pure ⟨plainId_quiet PySem.F.plain_all_loop _, this⟩
end
end Mir
namespace Mir
open PySem PySem.Spec PyProof.Rows L2
/-! ### mirrors of any(..), all(..) -/
def anyO {α : Type} (k : α → Option Bool) : List α → Option Bool
  | [] => some false
  | x :: xs => (k x).bind fun b => if b then some true else anyO k xs
def allO {α : Type} (k : α → Option Bool) : List α → Option Bool
  | [] => some true
  | x :: xs => (k x).bind fun b => if b then allO k xs else some false
def genO {α : Type} (sv : Bool) (k : α → Option Bool) : List α → Option Bool
  | [] => some (!sv)
  | x :: xs => (k x).bind fun b => if b = sv then some sv else genO sv k xs
theorem genO_any {α : Type} (k : α → Option Bool) : ∀ xs, genO true k xs = anyO k xs
  | [] => rfl
  | x :: xs => by
    unfold genO anyO
    congr 1
    funext b
    cases b with
    | true => rfl
    | false => simp only [Bool.false_eq_true, if_false]; exact genO_any k xs
theorem genO_all {α : Type} (k : α → Option Bool) : ∀ xs, genO false k xs = allO k xs
  | [] => rfl
  | x :: xs => by
    unfold genO allO
    congr 1
    funext b
    cases b with
    | false => rfl
    | true => simp only [Bool.true_eq_false, if_true, if_false]; exact genO_all k xs
/-! ### tables -/
section
variable {K : PySem.W.Frag} {F F' F0 B H H' : Hp} {L L' : Ow} {ρ : Env} {σ : L2.St} {vs : List V} {ds : List Sl}
theorem Ok.perm (k : Ok K B F0 F H L) (p : L'.Perm L) : Ok K B F0 F H L' := ⟨k.up, k.le, k.amb, k.new, k.sz, fun q m => k.own q (p.mem_iff.mp m), (p.map _).nodup_iff.mpr k.nd⟩
theorem Ok.tabG (k : Ok K B F0 F H L) {P : Addr} (m : (P, OD.tab) ∈ L) : GxR.TabG H P := (k.own _ m).2.2
theorem Ok.tabbed (k : Ok K B F0 F H L) {P : Addr} (m : (P, OD.tab) ∈ L) (t : GxR.Tabbed P H H') : Ok K B F0 F H' L := by
  obtain ⟨hF, hB, ps, hP, _⟩ := k.own _ m
  obtain ⟨⟨ps', hP', ht'⟩, hk⟩ := t
  have ne : ∀ {a : Addr} {o : HO}, F a = some o → a ≠ P := fun {a o} e q => by rw [q, show F P = none from hF] at e; cases e
  have neB : ∀ {a : Addr} {o : HO}, B a = some o → a ≠ P := fun {a o} e q => by rw [q, show B P = none from hB] at e; cases e
  refine ⟨k.up, fun a o e => by rw [hk a (ne e)]; exact k.le a o e, fun a o e => by rw [hk a (neB e)]; exact k.amb a o e, k.new, fun a o e => ?_, fun q m' => ?_, k.nd⟩
  · by_cases q : a = P
    · subst q; rw [hP'] at e; cases e; exact True.intro
    · rw [hk a q] at e; exact k.sz a o e
  · obtain ⟨h1, h2, h3⟩ := k.own q m'
    refine ⟨h1, h2, ?_⟩
    by_cases e : q.1 = P
    · have e2 : q = (P, .tab) := by
        have hnd := k.nd
        obtain ⟨i, hi, ei⟩ := List.getElem_of_mem m
        obtain ⟨j, hj, ej⟩ := List.getElem_of_mem m'
        have hij : i = j := by
          refine (List.getElem_inj (h₀ := by rw [List.length_map]; exact hi) (h₁ := by rw [List.length_map]; exact hj) hnd).mp ?_
          rw [List.getElem_map, List.getElem_map, ei, ej, e]
        subst hij
        rw [← ei, ← ej]
      rw [e2]
      exact ⟨ps', hP', ht'⟩
    · exact ORep.mono (Same.refl _) (hk _ e) h3
theorem St.tabbed (s : St K B F0 ρ L σ H vs ds) {P : Addr} (m : (P, OD.tab) ∈ L) (t : GxR.Tabbed P H H') : St K B F0 ρ L σ H' vs ds :=
  let ⟨F, k, a, b⟩ := s; ⟨F, k.tabbed m t, a, b⟩
end
section
variable {K : PySem.W.Frag} {α : Type}
theorem any_read {P : Addr} {sv : Bool} {wi : TI} {g : TG} {te : TE} {ws : List Nat} {ρ : Env} {ρb : α → Env} {L : Ow} {PL : Ow → Prop} {en : α → Sl} {xs : List α} {k : α → Option Bool} {r : Bool} {B F0 : Hp} {σ : L2.St} {H : Hp} {vs : List V} {ds : List Sl} {Q : VK}
    (hwi : ∀ R : It → Hp → Prop, (∀ J H1 pv pd, pv.length = pd.length → St K B F0 ρ L σ H1 (pv ++ vs) (pd ++ ds) → Walk K J pv pd PL en xs → R J H1) → wi σ H R)
    (hm : (P, OD.tab) ∈ L) (hPL : PL L)
    (hg : ∀ x σ H v vs ds Q, St K B F0 (wipeE ρ ws) L σ H (v :: vs) (en x :: ds) → (∀ σ' H', wipe σ' ws = wipe σ ws → St K B F0 (ρb x) L σ' H' vs ds → Q σ' H') → g v σ H Q)
    (he : ∀ x b, k x = some b → ∀ σ H vs ds Q, St K B F0 (ρb x) L σ H vs ds → (∀ v H', St K B F0 (ρb x) L σ H' (v :: vs) (.dat (dB b) :: ds) → Q v H') → te σ H Q)
    (hr : genO sv k xs = some r) (hS : ∃ F, Paired (SlR K F) σ ρ)
    (hQ : ∀ H', St K B F0 ρ L σ H' (.bl r :: vs) (.dat (dB r) :: ds) → Q (.bl r) H') : tAny P sv wi g te ws σ H Q := by
  refine hwi _ fun J H1 pv pd hl s1 w => ?_
  obtain ⟨F1, k1, _, _⟩ := id s1
  refine ⟨k1.tabG hm, fun H2 t => ⟨fun i m H => m = xs.length - i ∧ i ≤ xs.length ∧ genO sv k (xs.drop i) = some r ∧ St K B F0 ρ L σ H (pv ++ vs) (pd ++ ds), ⟨_, rfl, Nat.zero_le _, hr, s1.tabbed hm t⟩, ?_⟩⟩
  rintro i m H2 ⟨rfl, hi, hr, s2⟩
  obtain ⟨w3, w4⟩ := w B F0 _ _ σ H2 vs ds i hPL s2
  have popn : ∀ {H : Hp}, St K B F0 ρ L σ H (pv ++ vs) (pd ++ ds) → St K B F0 ρ L σ H vs ds := fun q => q.stack fun F r => (pr_split hl r).2
  by_cases hlt : i < xs.length
  · obtain ⟨go, yl⟩ := w4 xs[i] (List.getElem?_eq_getElem hlt)
    rw [List.drop_eq_getElem_cons hlt] at hr
    obtain ⟨b, hb, hr⟩ := Option.bind_eq_some_iff.mp hr
    refine .inr ⟨go, fun H => genO sv k (xs.drop (i + 1)) = some r ∧ St K B F0 ρ L σ H (pv ++ vs) (pd ++ ds), fun H' q => ⟨xs.length - (i + 1), by omega, rfl, hlt, q⟩, fun y H' hy => ?_⟩
    have s3 := yl y H' hy
    have s4 : St K B F0 ρ L σ H' (y :: (liveV σ ρ ++ (pv ++ vs))) (en xs[i] :: (liveS σ ρ ++ (pd ++ ds))) := by
      obtain ⟨F, k', a, b'⟩ := s3
      cases b' with
      | cons r t => exact ⟨F, k', a, .cons r (pr_app (live_of a) t)⟩
    refine hg xs[i] _ H' y _ _ _ (s4.wipe ws) fun σ5 H5 e5 s5 => ⟨?_, ?_⟩
    · rw [e5]
      apply List.ext_getElem?
      intro j
      simp only [wipe_get]
      by_cases hj : j ∈ ws
      · simp only [if_pos hj]
        cases σ[j]? <;> rfl
      · simp only [if_neg hj]
    · refine he xs[i] b hb σ5 H5 _ _ _ s5 fun v H7 s7 => ?_
      have ev : v = .bl b := by
        obtain ⟨F, _, _, sv'⟩ := s7
        cases sv' with
        | cons r _ => cases (show Rp F v (.bool b) from r); rfl
      refine ⟨b, ev, ?_⟩
      have s8 : St K B F0 ρ L σ H7 (pv ++ vs) (pd ++ ds) := St.back hS s7.pop
      by_cases hb2 : b = sv
      · rw [if_pos hb2] at hr ⊢
        have e : sv = r := by simpa using hr
        subst e
        exact hQ H7 (popn s8).bl
      · rw [if_neg hb2] at hr ⊢
        exact ⟨hr, s8⟩
  · have e : i = xs.length := by omega
    have e2 : xs.drop i = [] := by rw [e]; exact List.drop_length
    rw [e2] at hr
    have e3 : (!sv) = r := by simpa [genO] using hr
    subst e3
    exact .inl ⟨w3 e, hQ H2 (popn s2).bl⟩
end
/-! ### what holds in every frame of a generator expression -/
section
variable {X : Cx} {α : Type} {e tg iter elt : Expr} {ρ : Env} {L : Ow} {p pos gpos : Pos}
abbrev Gk (X : Cx) (k : Nat) (scope : Scope) (Pr : Cx → Prop) : Prop := ∀ (A' : Around) (s : Shared) (H : Hp) (C : Addr) (cl : List (Str × Addr)) (code : Value) (fp : List Addr), Room k A' → Pr (gCx X A' s H (genEnv scope cl C code builtinsNs X.env) fp)
theorem GY.gk {k : Nat} {scope : Scope} {ρf' : α → Env} {sf : α → Sl} {ws : List Nat} (h : Gk X k scope fun X => ∀ x, GY X tg ρ (sf x) (ρf' x) ws) :
    ∃ g, Gk X k scope (fun X => PG X tg g) ∧ ∀ x L B F0 σ H v vs ds Q, St X.K B F0 ρ L σ H (v :: vs) (sf x :: ds) → (∀ σ' H', wipe σ' ws = wipe σ ws → St X.K B F0 (ρf' x) L σ' H' vs ds → Q σ' H') → g v σ H Q := by
  refine ⟨fun v σ H Q => ∃ x L B F0 vs ds, St X.K B F0 ρ L σ H (v :: vs) (sf x :: ds) ∧ ∀ σ' H', wipe σ' ws = wipe σ ws → St X.K B F0 (ρf' x) L σ' H' vs ds → Q σ' H', fun A' s1 H1 C cl code fp hA => ⟨fun pins s σ H v u Q I r h2 => ?_⟩, fun x L B F0 σ H v vs ds Q q k => ⟨x, L, B, F0, vs, ds, q, k⟩⟩
  obtain ⟨x, L, B, F0, vs, ds, q, kk⟩ := h2
  obtain ⟨g, p, h⟩ := h A' s1 H1 C cl code fp hA x
  exact p.run pins s σ H v u Q I r (h L B F0 σ H v vs ds Q q kk)
theorem EX.gk {k : Nat} {scope : Scope} {ρf : α → Env} {f : α → Option Bool} (h : Gk X k scope fun X => ∀ x, EX X dB e (ρf x) L (f x)) :
    ∃ t, Gk X k scope (fun X => PE X e t) ∧ ∀ x b, f x = some b → ∀ B F0 σ H vs ds Q, St X.K B F0 (ρf x) L σ H vs ds → (∀ v H', St X.K B F0 (ρf x) L σ H' (v :: vs) (.dat (dB b) :: ds) → Q v H') → t σ H Q := by
  refine ⟨fun σ H Q => ∃ x b B F0 vs ds, f x = some b ∧ St X.K B F0 (ρf x) L σ H vs ds ∧ ∀ v H', St X.K B F0 (ρf x) L σ H' (v :: vs) (.dat (dB b) :: ds) → Q v H', fun A' s1 H1 C cl code fp hA => ⟨fun pins s σ H Q I h2 => ?_⟩,
    fun x b e B F0 σ H vs ds Q q g => ⟨x, b, B, F0, vs, ds, e, q, g⟩⟩
  obtain ⟨x, b, B, F0, vs, ds, e, q, g⟩ := h2
  obtain ⟨t, p, h⟩ := h A' s1 H1 C cl code fp hA x
  exact p.run pins s σ H Q I (h b e B F0 σ H vs ds Q q g)
/-- the genexp's own scope, as it is written -/
structure GScp (scope : Scope) : Prop where
  cell : ∀ y ∈ scope.names, y.2 ≠ .cell
  dot : scope.names.lookup (".0" : Str) = some NameKind.local
  co : scope.isCoroutine = false
theorem x_anyG {j k : Nat} {c P : Addr} {scope : Scope} {own : List (Str × Nat)} {PL : Ow → Prop} {lim : Bool} {en : α → Sl} {o : Option (List α)} {ρb : α → Env} {f : α → Option Bool} (ix : Nat)
    (hr : Room j X.A) (TB : GxR.TabB X.base X.mg c P) (hL : L[ix]? = some (P, .tab)) (hm : X.mg "any" = none) (hN : X.N.Nodup) (ok : BlkOk X.N X.env.scope scope own) (hs : GScp scope)
    (hi : IX X tg iter ρ L PL lim en o) (hPL : PL L) (hg : Gk X k scope fun X => ∀ x, GY X tg (wipeE ρ (own.map (·.2))) (en x) (ρb x) (own.map (·.2))) (he : Gk X k scope fun X => ∀ x, EX X dB elt (ρb x) L (f x)) (hj : k + 1 ≤ j := by decide) (hc : X.calm = true := by rfl)
    (hcode : X.env.code = .ref c := by rfl) (hgl : Gl X "any" := by rfl) (hsI : ∀ v, genFold iter X.env v = pure v := by intro _; rfl) (hst : starEach [gE elt tg iter scope gpos] X.env = (false, eval (gE elt tg iter scope gpos) X.env) :: starEach [] X.env := by rfl) :
    EX X dB (.Call (.Name "any" p) [gE elt tg iter scope gpos] [] pos) ρ L (o.bind fun xs => anyO f xs) := by
  obtain ⟨wi, pi, hi⟩ := hi
  obtain ⟨g, pg, hg⟩ := GY.gk hg
  obtain ⟨te, pe, he⟩ := EX.gk he
  refine ⟨_, pe_anyG hc (hr.mono hj) hN hgl hm TB hcode ok hs.cell hs.dot hs.co pi hsI pg pe hst, fun r hz B F0 σ H vs ds Q s q => ?_⟩
  obtain ⟨xs, hx, hz⟩ := Option.bind_eq_some_iff.mp hz
  exact any_read (fun R r' => hi xs hx B F0 σ H vs ds R s fun J H1 pv pd e z s1 w => r' J H1 pv pd e s1 w) (mem_at hL) hPL (fun x σ H v vs ds Q => hg x L B F0 σ H v vs ds Q) (fun x b hb σ H vs ds Q => he x b hb B F0 σ H vs ds Q) (by rw [genO_any]; exact hz) s.slots fun H' s' => q _ H' s'
theorem x_allG {j k : Nat} {c P : Addr} {scope : Scope} {own : List (Str × Nat)} {PL : Ow → Prop} {lim : Bool} {en : α → Sl} {o : Option (List α)} {ρb : α → Env} {f : α → Option Bool} (ix : Nat)
    (hr : Room j X.A) (TB : GxR.TabB X.base X.mg c P) (hL : L[ix]? = some (P, .tab)) (hm : X.mg "all" = none) (hN : X.N.Nodup) (ok : BlkOk X.N X.env.scope scope own) (hs : GScp scope)
    (hi : IX X tg iter ρ L PL lim en o) (hPL : PL L) (hg : Gk X k scope fun X => ∀ x, GY X tg (wipeE ρ (own.map (·.2))) (en x) (ρb x) (own.map (·.2))) (he : Gk X k scope fun X => ∀ x, EX X dB elt (ρb x) L (f x)) (hj : k + 1 ≤ j := by decide) (hc : X.calm = true := by rfl)
    (hcode : X.env.code = .ref c := by rfl) (hgl : Gl X "all" := by rfl) (hb : bootBuiltins "all" = some (.builtin "all") := by decide +kernel) (hsI : ∀ v, genFold iter X.env v = pure v := by intro _; rfl) (hst : starEach [gE elt tg iter scope gpos] X.env = (false, eval (gE elt tg iter scope gpos) X.env) :: starEach [] X.env := by rfl) :
    EX X dB (.Call (.Name "all" p) [gE elt tg iter scope gpos] [] pos) ρ L (o.bind fun xs => allO f xs) := by
  obtain ⟨wi, pi, hi⟩ := hi
  obtain ⟨g, pg, hg⟩ := GY.gk hg
  obtain ⟨te, pe, he⟩ := EX.gk he
  refine ⟨_, pe_allG hc (hr.mono hj) hN hgl hm TB hcode ok hs.cell hs.dot hs.co pi hsI pg pe hb hst, fun r hz B F0 σ H vs ds Q s q => ?_⟩
  obtain ⟨xs, hx, hz⟩ := Option.bind_eq_some_iff.mp hz
  exact any_read (fun R r' => hi xs hx B F0 σ H vs ds R s fun J H1 pv pd e z s1 w => r' J H1 pv pd e s1 w) (mem_at hL) hPL (fun x σ H v vs ds Q => hg x L B F0 σ H v vs ds Q) (fun x b hb σ H vs ds Q => he x b hb B F0 σ H vs ds Q) (by rw [genO_all]; exact hz) s.slots fun H' s' => q _ H' s'
end
end Mir
namespace Mir
open PySem PySem.Spec PyProof.Rows L2
/-! ### a def that holds generator expressions: its code object c -/
structure FunT (K : PySem.W.Frag) (x qual : Str) (st : Stmt) (f : Addr) (fd : FuncData) (c : Addr) : Prop where
  ex : ∃ (oc : Value) (od : Option Addr) (kV doc pm : Value) (an : Option Addr) (ct : Value) (osl : Array (Option Value)),
    fd = PySem.W.fnOf x qual (defArgs st) (defBody st) (defScope st) .none kV doc pm an (.ref c) ct ∧ K.lookup f = some ⟨oc, od, .func fd, osl⟩ ∧ PySem.W.codeIn K (.ref c) qual = true
  kp : PySem.W.keepIn K (.ref f) = true
section
variable {P : Program} {w : World} {K : PySem.W.Frag} {mg : Str → Option Value} {base : Heap}
theorem FunT.fn {x qual : Str} {st : Stmt} {f c : Addr} {fd : FuncData} (F : FunT K x qual st f fd c) : Fun K x qual st f fd := by
  obtain ⟨oc, od, kV, doc, pm, an, ct, osl, h1, h2, h3⟩ := F.ex
  exact ⟨⟨oc, od, kV, doc, pm, an, .ref c, ct, osl, h1, h2, h3⟩, F.kp⟩
theorem funT_mk {x qual : Str} {st : Stmt} {f c : Addr} {oc : Value} {od an : Option Addr} {osl : Array (Option Value)} {kV doc pm ct : Value} (l : K.lookup f = some ⟨oc, od, .func (PySem.W.fnOf x qual (defArgs st) (defBody st) (defScope st) .none kV doc pm an (.ref c) ct), osl⟩)
    (cc : PySem.W.codeIn K (.ref c) qual = true) (k : PySem.W.keepIn K (.ref f) = true) : FunT K x qual st f (PySem.W.fnOf x qual (defArgs st) (defBody st) (defScope st) .none kV doc pm an (.ref c) ct) c := ⟨⟨oc, od, kV, doc, pm, an, ct, osl, rfl, l, cc⟩, k⟩
theorem FunT.ok {x qual : Str} {st : Stmt} {f c : Addr} {fd : FuncData} {N ps : List Str} {k : Nat} {sp : Sp} (F : FunT K x qual st f fd c) (S : FnScope N ps (defScope st)) (len : ∀ vs H Q E, sp vs H Q E → vs.length = ps.length)
    (hbody : ∀ (A : Around) (outer : List PySem.Env) (s : Shared) (H : Hp) (vs : List V) (Q : VK) (E : XK), Room k (A.deeper (envOfC qual (defScope st) s.heap.objs.size f (.ref c))) → sp vs H Q E →
      ∃ t, PSs (cxOf CX0 P w K mg base N qual (defScope st) f (.ref c) A outer s H E).nox (defBody st) t ∧ t { nx := fun _ H' => Q .non H', rt := Q } (start N vs) H) : FnOk P w K mg base CX0 (k + 1) f fd ps sp := by
  obtain ⟨oc, od, kV, doc, pm, an, ct, osl, rfl, lk, hcd⟩ := F.ex
  refine fn_of lk hcd S len fun A outer s H vs Q E hr hsp => ?_
  obtain ⟨t, h, q⟩ := hbody A outer s H vs Q E hr hsp
  exact ⟨t, h.nox, q⟩
/-- what such a def promises: the tables at Lt are its own -/
abbrev spT (K : PySem.W.Frag) {α β : Type} (Lt : Ow) (enc : α → List Sl) (dR : β → PyData) (m : α → Option β) : Sp := spG K enc dR (fun _ : Unit => Lt) (fun a u => (m a).map fun r => (r, u))
theorem fnok_fnT {α β : Type} {Lt : Ow} {x qual : Str} {st : Stmt} {f c : Addr} {fd : FuncData} {N ps : List Str} {k : Nat} {enc : α → List Sl} {dR : β → PyData} {m : α → Option β} (F : FunT K x qual st f fd c) (S : FnScope N ps (defScope st)) (hl : ∀ a, (enc a).length = ps.length)
    (body : ∀ (A : Around) (outer : List PySem.Env) (s : Shared) (H : Hp) (E : XK), Room k (A.deeper (PyProof.Rows.envOfC qual (defScope st) s.heap.objs.size f (.ref c))) → ∀ a, BX (cxOf CX0 P w K mg base N qual (defScope st) f (.ref c) A outer s H E).nox (defBody st) (startE N (enc a)) Lt (m a) (ocr fun r => (.dat (dR r), Lt))) :
    FnOk P w K mg base CX0 (k + 1) f fd ps (spT K Lt enc dR m) := by
  refine F.ok S (fun vs H Q E h => ?_) (fun A outer s H vs Q E hr h => ?_)
  · obtain ⟨a, _, r, _, B, F', _, _, hv, _⟩ := h
    rw [Paired.length hv]
    exact hl a
  · obtain ⟨a, u, r, u', B, F', hm, ok, hv, q⟩ := h
    obtain ⟨r', hm', e⟩ := Option.map_eq_some_iff.mp hm
    injection e with e1 e2
    subst e1
    obtain ⟨t, p, hb⟩ := body A outer s H E hr a
    refine ⟨t, p, hb r' hm' B F' _ H [] [] _ ⟨F', ok, start_pr hv, .nil⟩ ?_⟩
    rintro v H' ⟨F2, ok2, _, sv⟩
    cases sv with
    | cons r2 t2 => exact q v F2 H' ok2 r2
theorem knows_fnT {α β : Type} {Lt : Ow} {x qual : Str} {st : Stmt} {f c : Addr} {fd : FuncData} {N ps : List Str} {k : Nat} {enc : α → List Sl} {dR : β → PyData} {m : α → Option β} (F : FunT K x qual st f fd c) (hm : mg x = some (.ref f)) (hb : Binds K fd ps []) (S : FnScope N ps (defScope st)) (hl : ∀ a, (enc a).length = ps.length)
    (body : ∀ (A : Around) (outer : List PySem.Env) (s : Shared) (H : Hp) (E : XK), Room k (A.deeper (PyProof.Rows.envOfC qual (defScope st) s.heap.objs.size f (.ref c))) → ∀ a, BX (cxOf CX0 P w K mg base N qual (defScope st) f (.ref c) A outer s H E).nox (defBody st) (startE N (enc a)) Lt (m a) (ocr fun r => (.dat (dR r), Lt))) :
    Knows P w K mg base x (k + 1) ps (spT K Lt enc dR m) := ⟨f, fd, fnok_fnT F S hl body, hm, F.kp, hb⟩
end
section
variable {X : Cx} {α β : Type} {e : Expr} {es : List Expr} {ρ : Env} {L : Ow} {p pos : Pos} {d' : β → PyData} {x : Str} {k j : Nat} {ps : List Str}
theorem eraseIdx_perm {τ : Type} : ∀ {l : List τ} {i : Nat} {a : τ}, l[i]? = some a → (a :: l.eraseIdx i).Perm l
  | b :: l, 0, a, h => by
    have : b = a := by simpa using h
    rw [this]
    exact List.Perm.refl _
  | b :: l, i + 1, a, h => by
    have ih := eraseIdx_perm (l := l) (i := i) (a := a) (by simpa using h)
    rw [List.eraseIdx_cons_succ]
    exact (List.Perm.swap b a _).trans (ih.cons b)
/-- a call of it: its table is among what is owned -/
theorem x_callT {enc : α → List Sl} {m : α → Option β} {o : Option α} {Pt : Addr} (i : Nat) (hL : L[i]? = some (Pt, .tab)) (G : KnowsX X x k ps (spT X.K [(Pt, .tab)] enc d' m)) (hr : Room j X.A) (ha : AX X enc (e :: es) ρ L o) (hj : k ≤ j := by decide)
    (hh : ∀ {f fd t}, FnOk X.prog X.w X.K X.mg X.base CX0 k f fd ps (spT X.K [(Pt, .tab)] enc d' m) → X.mg x = some (.ref f) → PySem.W.keepIn X.K (.ref f) = true → Binds X.K fd ps [] → Room k X.A → PA X (e :: es) t →
      PE X (.Call (.Name x p) (e :: es) [] pos) (tCall (spT X.K [(Pt, .tab)] enc d' m) [] E0 t) := by intro f fd t h1 h2 h3 h4 h5 h6; exact pe_call h1 h5 (by rfl) h2 h3 h4 .nil pass0 h6) :
    EX X d' (.Call (.Name x p) (e :: es) [] pos) ρ L (o.bind m) := by
  obtain ⟨f, fd, h1, h2, h3, h4⟩ := G
  obtain ⟨t, pa, ha⟩ := ha
  refine ⟨_, hh h1 h2 h3 h4 (hr.mono hj) pa, fun r hz B F0 σ H vs ds Q s q => ?_⟩
  obtain ⟨y, hy, hz⟩ := Option.bind_eq_some_iff.mp hz
  refine ha y hy B F0 σ H vs ds _ s fun us H1 e1 s1 => ?_
  rw [List.append_nil]
  obtain ⟨F, ok, sl, sv⟩ := s1
  obtain ⟨sv1, sv2⟩ := pr_split e1 sv
  have pm := eraseIdx_perm hL
  have ok1 : Ok X.K B F0 F H1 ([(Pt, OD.tab)] ++ L.eraseIdx i) := ok.perm pm
  exact ⟨y, (), r, (), _, F, by show (m y).map _ = _; rw [hz]; rfl, ok1.enter, sv1, fun v F' H' k' rv => q v H' ⟨F', (ok1.leave rfl k').perm pm.symm, sls_mono k'.up sl, .cons rv (svs_mono k'.up sv2)⟩⟩
end
/-! ### the law with tables -/
theorem hsz_of {P : Program} {w : World} {H : Hp} {h : Heap} (k : HOk P w H h) : HSz H := fun a o e => by
  have z := k a o e
  cases o with
  | lst xs => exact z.1
  | tup xs => exact z.1
  | dK ws => exact z.1
  | dT ws => exact z.1
  | _ => exact True.intro
theorem pss_sz {X : Cx} {body : List Stmt} {t : TS} (h : PSs X body t) : PSs X body (fun D σ H => HSz H → t D σ H) := ⟨fun pins s σ H D I ht => h.run pins s σ H D I (ht (hsz_of I.hok))⟩
def spLawT (K : PySem.W.Frag) (cs : List (Addr × Addr)) : Sp := fun vs H Q _ => ∃ (a : Addr) (ns : List Int), vs = [.ref a] ∧ SqL K H a (ns.map V.int) ∧ ns.length ≤ 63 ∧ (∀ z ∈ ns, Builtin.Int.intBits z ≤ 1048576) ∧ (∀ p ∈ cs, H p.2 = some (.tbl #[])) ∧ ∀ H', Q (.bl true) H'
def tabs (cs : List (Addr × Addr)) : Ow := cs.map fun p => (p.2, OD.tab)
theorem tabs_fst (cs : List (Addr × Addr)) : (tabs cs).map (·.1) = cs.map (·.2) := by unfold tabs; rw [List.map_map]; rfl
theorem fnok_lawT {P : Program} {w : World} {K : PySem.W.Frag} {mg : Str → Option Value} {base : Heap} {cs : List (Addr × Addr)} {qual : Str} {st : Stmt} {f : Addr} {fd : FuncData} {N : List Str} {k : Nat} {m : List Int → Option Bool} (F : Fun K "law" qual st f fd) (S : FnScope N ["script"] (defScope st)) (hnd : (cs.map (·.2)).Nodup)
    (hm : ∀ ns : List Int, ns.length ≤ 63 → (∀ z ∈ ns, Builtin.Int.intBits z ≤ 1048576) → m ns = some true)
    (body : ∀ (cdv : Value) (A : Around) (outer : List PySem.Env) (s : Shared) (H : Hp) (E : XK), Room k (A.deeper (PyProof.Rows.envOfC qual (defScope st) s.heap.objs.size f cdv)) → ∀ ns : List Int, BX (cxOf CX0 P w K mg base N qual (defScope st) f cdv A outer s H E).nox (defBody st) (startE N [.scr ns]) (tabs cs) (m ns) (ocr fun r => (.dat (dB r), tabs cs))) :
    FnOk P w K mg base CX0 (k + 1) f fd ["script"] (spLawT K cs) := by
  refine F.ok S (fun vs H Q E h => ?_) (fun cdv A outer s H vs Q E hr h => ?_)
  · obtain ⟨a, ns, rfl, _⟩ := h
    rfl
  · obtain ⟨a, ns, rfl, hs, hl, hb, ht, q⟩ := h
    obtain ⟨t, p, hbd⟩ := body cdv A outer s H E hr ns
    refine ⟨_, pss_sz p, fun hz => ?_⟩
    have hmem : ∀ p ∈ tabs cs, H p.1 = some (.tbl #[]) ∧ p.2 = .tab := fun p hp => by
      obtain ⟨q, hq, rfl⟩ := List.mem_map.mp hp
      exact ⟨ht q hq, rfl⟩
    have sub : ∀ b o, cutB H (tabs cs) b = some o → H b = some o := fun b o e => by
      by_cases hb : b ∈ (tabs cs).map (·.1)
      · rw [cutB_none hb] at e; cases e
      · rw [cutB_of hb] at e; exact e
    have ok : Ok K (cutB H (tabs cs)) (cutB H (tabs cs)) (cutB H (tabs cs)) H (tabs cs) := by
      refine ⟨Same.refl _, sub, sub, fun a o e => .inl e, hz, fun p hp => ?_, by rw [tabs_fst]; exact hnd⟩
      have hn := cutB_none (H := H) (List.mem_map_of_mem (f := (·.1)) hp)
      obtain ⟨h1, h2⟩ := hmem p hp
      refine ⟨hn, hn, ?_⟩
      rw [h2]
      exact ⟨#[], h1, by simp [TriplesOk]⟩
    have hs' : SqL K (cutB H (tabs cs)) a (ns.map V.int) := by
      have na : a ∈ (tabs cs).map (·.1) → H a = some (.tbl #[]) := fun h => by
        obtain ⟨p, hp, e⟩ := List.mem_map.mp h
        rw [← e]
        exact (hmem p hp).1
      rcases hs with (hs | ⟨o, hs⟩) | hs
      · refine .inl (.inl ?_)
        rw [cutB_of fun h => by rw [na h] at hs; cases hs]
        exact hs
      · refine .inl (.inr ⟨o, ?_⟩)
        rw [cutB_of fun h => by rw [na h] at hs; cases hs]
        exact hs
      · exact .inr hs
    refine hbd true (hm ns hl hb) _ _ _ H [] [] _ ⟨_, ok, start_pr (.cons ⟨a, rfl, hs'⟩ .nil), .nil⟩ ?_
    rintro v H' ⟨F2, ok2, _, sv⟩
    cases sv with
    | cons r2 t2 =>
      cases (show Rp F2 v (.bool true) from r2)
      exact q H'
/-- which tables are known to be empty at the head -/
def TabE (K : PySem.W.Frag) (h : Heap) (f c P : Addr) : Prop := (∃ (o : Obj) (fd : FuncData) (e : Value) (dd : Option Addr) (vs : Array Value) (sl : Array (Option Value)), K.lookup f = some o ∧ o.data = .func fd ∧ fd.code = .ref c ∧ K.lookup c = some ⟨e, dd, .fields vs, sl⟩ ∧ vs[11]? = some (.ref P)) → h.get? P = some { cls := .none, data := .fields #[] }
theorem walk_lawT {l : PySem.W.OpenLaw} {k : Nat} {q : Program} {loose : List Str} {XP : (Str → Option Value) → Heap → Prop} {YP : World → Heap → Prop} {d : DefRec} {K : Params → PySem.W.Frag} (hn : l.most = some 63) (hdf : d.params.defaults = []) (hr : Room k callerA)
    (hY : ∀ (w : World) (h : Heap), YP w h → (K w.params).In h)
    (F : ∀ (w : World) (mg : Str → Option Value) (fa : Addr) (h : Heap), (K w.params).In h → h.Ns mainGlobals mg → mg d.name = some (.ref fa) → (∀ (x : Str) (fx c P : Addr), ((recsOf q).any fun e => e.name == x) = true → mg x = some (.ref fx) → TabE (K w.params) h fx c P) →
      ∃ (fd : FuncData) (cs : List (Addr × Addr)), (∀ p ∈ cs, h.get? p.2 = some { cls := .none, data := .fields #[] }) ∧ (∀ p ∈ cs, (K w.params).lookup p.2 = none) ∧ (∀ p ∈ cs, PySem.W.CodeHd h p.1 p.2) ∧ (∀ (s : Shared) (u : Value), BindsTo s fd ⟨[u], []⟩ [("script", u)]) ∧
        ∀ base : Heap, (K w.params).In base → base.Ns mainGlobals mg → (∀ p ∈ cs, GxR.TabB base mg p.1 p.2) → FnOk l.prog w (K w.params) mg base CX0 k fa fd ["script"] (spLawT (K w.params) cs)) :
    PySem.W.WalkO q loose XP YP l.row.toRowW d [] (fun f vs => PySem.call f vs) := by
  refine Att.attach_callB hn hdf fun w s₀ s₁ mg mb fa o pm cd doc a vs ns G Y ho hd hcd hmg hobj hints hlen hbits hg => ?_
  have KX := hY w _ Y
  have tabE : ∀ (x : Str) (fx c P : Addr), ((recsOf q).any fun e => e.name == x) = true → mg x = some (.ref fx) → TabE (K w.params) s₁.heap fx c P := by
    rintro x fx c P hx hf ⟨o1, fd1, e, dd, vs1, sl, k1, k2, k3, k4, k5⟩
    obtain ⟨dL, hm1, hm2⟩ := List.any_eq_true.mp hx
    obtain ⟨a', o', fd', c', P', h1, h2, h3, h4, h5, h6⟩ := G.T.tab dL hm1
    rw [beq_iff_eq.mp hm2, hf] at h1
    injection h1 with h1
    injection h1 with h1
    subst h1
    have g1 := (KX _ _ k1).symm.trans h2
    injection g1 with g1
    subst g1
    have g2 := k2.symm.trans h3
    injection g2 with g2
    subst g2
    have g3 := k3.symm.trans h4
    injection g3 with g3
    subst g3
    obtain ⟨⟨oc, vc, e1, _, e3, e4⟩, hP⟩ := h6
    have g4 := (KX _ _ k4).symm.trans e1
    injection g4 with g4
    subst g4
    injection e3 with e3
    subst e3
    have g5 := k5.symm.trans e4
    injection g5 with g5
    injection g5 with g5
    subst g5
    exact hP
  obtain ⟨fd, cs, hT, nT, C, hb, hF⟩ := F w mg fa _ KX G.T.g hmg tabE
  exact LamX.law_callTs KX G.T.g G.T.b G.T.builtins G.T.nolimit hg hT nT C G.T.bmain hobj hints (Nat.le_trans hlen (by decide)) hr (fun base i1 i2 i3 => hF base i1 i2 fun p hp => ⟨(i3 p hp).1, (i3 p hp).2, (i3 p hp).3⟩) hb (fun H hH hS => ⟨a, ns, rfl, hS, hlen, hbits, hH, fun _ => rfl⟩) fun _ _ _ z => z
/-! ### bodies that own tables -/
theorem Ok.gainL {K : PySem.W.Frag} {B F0 F F' H H' : Hp} {L L' : Ow} (k : Ok K B F0 F H L) (k' : Ok K H F F' H' L') : Ok K B F0 F' H' (L' ++ L) := by
  have old : ∀ q ∈ L, ∃ o, H q.1 = some o ∧ H' q.1 = some o ∧ ¬ isTup o := fun q m => by
    obtain ⟨_, _, r⟩ := k.own q m
    obtain ⟨o, e, n⟩ := r.there
    exact ⟨o, e, k'.amb _ _ e, n⟩
  refine ⟨k.up.trans k'.up, k'.le, fun a o e => k'.amb a o (k.amb a o e), fun a o e => ?_, k'.sz, fun q m => ?_, ?_⟩
  · rcases k'.new a o e with h | h | h
    · exact k.new a o h
    · exact .inr (.inl (k.amb.free h))
    · exact .inr (.inr h)
  · rcases List.mem_append.mp m with m | m
    · obtain ⟨a, b, r⟩ := k'.own q m
      exact ⟨a, k.amb.free b, r⟩
    · obtain ⟨a, b, r⟩ := k.own q m
      obtain ⟨o, e1, e2, nt⟩ := old q m
      refine ⟨?_, b, ORep.mono k'.up (by rw [e1, e2]) r⟩
      cases e : F' q.1 with
      | none => rfl
      | some u =>
        have e3 := k'.le _ _ e
        rw [e2] at e3
        cases e3
        rcases k'.new _ _ e with h | h | h
        · rw [a] at h; cases h
        · rw [e1] at h; cases h
        · exact absurd h nt
  · rw [List.map_append, List.nodup_append]
    refine ⟨k'.nd, k.nd, fun a ha b hb e => ?_⟩
    obtain ⟨p, hp, rfl⟩ := List.mem_map.mp ha
    obtain ⟨q, hq, rfl⟩ := List.mem_map.mp hb
    obtain ⟨o, e1, _, _⟩ := old q hq
    have := (k'.own p hp).2.1
    rw [e, e1] at this
    cases this
section
variable {X : Cx} {α β δ : Type} {e : Expr} {ρ : Env} {L : Ow} {p pos px : Pos} {d : α → PyData} {rest : List Stmt} {oc : δ → Oc}
theorem b_stateT {m : List Int → Option DS} {ns : List Int} {ps : List Str} {x f : Str} {pos2 : Pos} {k j : Nat} {kk : DS → Option δ} (i : Nat) (hN : X.N.Nodup) (G : KnowsX X f k ps (spS X.K m)) (hr : Room j X.A) (ha : ES X e ρ L (some (.scr ns))) (hrest : ∀ s c w, BX X rest (ρ.set i (some (.ptr s))) (LD s c w ++ L) (kk w) oc) (hj : k ≤ j := by decide) (hst : starEach [e] X.env = (false, eval e X.env) :: starEach [] X.env := by rfl)
    (hs : swapsWith (.Call (.Name f p) [e] [] pos) (some (.Name x px)) pos2.line X.env = pure false := by rfl) (hi : X.N[i]? = some x := by rfl) (hx : Loc X.env.scope x := by first | exact Or.inl rfl | exact Or.inr rfl) (hf : X.fn x = true ∨ X.env.scope.names.lookup x = some .local := by first | exact .inl rfl | exact .inr rfl)
    (hh : ∀ {g fd t}, FnOk X.prog X.w X.K X.mg X.base CX0 k g fd ps (spS X.K m) → X.mg f = some (.ref g) → PySem.W.keepIn X.K (.ref g) = true → Binds X.K fd ps [] → Room k X.A → PA X [e] t →
      PE X (.Call (.Name f p) [e] [] pos) (tCall (spS X.K m) [] E0 t) := by intro f fd t h1 h2 h3 h4 h5 h6; exact pe_call h1 h5 (by rfl) h2 h3 h4 .nil pass0 h6) :
    BX X (.Assign [.Name x px] (.Call (.Name f p) [e] [] pos) pos2 :: rest) ρ L ((m ns).bind kk) oc := by
  obtain ⟨g, fd, h1, h2, h3, h4⟩ := G
  obtain ⟨t, pa, ha⟩ := ha
  have pa1 : PA X [e] (tCons t tNil) := pa_cons pa pa_nil hst
  obtain ⟨t', p', hrest⟩ := BX.all (S := Addr × Addr × DS) (ρf := fun q => ρ.set i (some (.ptr q.1))) (Lf := fun q => LD q.1 q.2.1 q.2.2 ++ L) (k := fun q => kk q.2.2) fun q => hrest q.1 q.2.1 q.2.2
  refine ⟨_, pss_cons (ps_set hN hi hx (hh h1 h2 h3 h4 (hr.mono hj) pa1) hs hf) p', fun r hz B F0 σ H vs ds D s gd => ?_⟩
  obtain ⟨w, hw, hz⟩ := Option.bind_eq_some_iff.mp hz
  refine ha _ rfl B F0 σ H vs ds _ s fun v H1 s1 => ?_
  obtain ⟨F, ok, sl, sv⟩ := s1
  cases sv with
  | cons r1 t1 =>
    refine ⟨ns, w, F, hw, ok.enter0, .cons r1 .nil, fun s c v F' H' k' rv => ?_⟩
    have s2 : St X.K B F0 ρ (LD s c w ++ L) σ H' (v :: vs) (.ptr s :: ds) := ⟨F', ok.gainL k', sls_mono k'.up sl, .cons rv (svs_mono k'.up t1)⟩
    exact hrest (s, c, w) r hz B F0 _ _ vs ds D (s2.store i) gd
theorem St.perm {K : PySem.W.Frag} {B F0 H : Hp} {L L' : Ow} {ρ : Env} {σ : L2.St} {vs : List V} {ds : List Sl} (s : St K B F0 ρ L σ H vs ds) (q : L'.Perm L) : St K B F0 ρ L' σ H vs ds :=
  let ⟨F, k, a, b⟩ := s; ⟨F, k.perm q, a, b⟩
/-- return, the tables kept -/
theorem b_retP {o : Option α} {L1 M : Ow} (q : L.Perm (L1 ++ M)) (g : α → β) {oc : β → Oc} (h : EX X d e ρ L o) (hoc : ∀ a, oc (g a) = .rt (.dat (d a)) L1) : BX X [.Return (some e) pos] ρ L (o.map g) oc := by
  obtain ⟨t, p, h⟩ := h
  refine ⟨_, pss_one (ps_ret p), fun b hb B F0 σ H vs ds D s g' => ?_⟩
  obtain ⟨a, ha, rfl⟩ := Option.map_eq_some_iff.mp hb
  rw [hoc] at g'
  exact h a ha B F0 σ H vs ds _ s fun v H' s' => g' v H' (St.part (s'.perm q.symm)).noslots
theorem b_retrP {o : Option α} {rd : Rd α} {L1 M : Ow} (q : L.Perm (L1 ++ M)) (h : EX X d e ρ L o) (hrd : ∀ a, rd a = (.dat (d a), L1) := by intro _; rfl) : BX X [.Return (some e) pos] ρ L o (ocr rd) := by
  obtain ⟨t, p, h⟩ := h
  refine ⟨_, pss_one (ps_ret p), fun a ha B F0 σ H vs ds D s g' => ?_⟩
  have g2 : Good X.K B F0 vs ds D (.rt (rd a).1 (rd a).2) := g'
  rw [hrd] at g2
  exact h a ha B F0 σ H vs ds _ s fun v H' s' => g2 v H' (St.part (s'.perm q.symm)).noslots
end
end Mir
namespace Mir
open PySem PySem.Spec PyProof.Rows L2
/-! ### list(reversed(xs)) -/
theorem nolen_lri : typeLookup (.type "list_reverseiterator") "__len__" = pure none := by rw [typeLookup_type, builtinLookup_eq_fast]; kernel_rfl
theorem hint_lri : typeLookup (.type "list_reverseiterator") "__length_hint__" = pure (some (.builtin "list_reverseiterator.__length_hint__")) := by rw [typeLookup_type, builtinLookup_eq_fast]; kernel_rfl
section
variable {prog : Program} {w : World} {A : Around} {E : Value → Shared → Prop} {s : Shared} {I a S : Addr} {items : Array Value}
theorem hint_rev {Q : Bool → Shared → Prop} (hT : s.TypeIs (.ref I) "list_reverseiterator") (h : Q false s) : wpAny (model prog w) A (Builtin.List.listLengthHint (.ref I)) Q E s := by
  unfold Builtin.List.listLengthHint
  refine wpAny_bind (wpAny_specialOf hT nolen_lri ?_)
  show wpAny _ A (specialOf (Value.ref I) (Str.ofString "__length_hint__") >>= _) _ _ _
  refine wpAny_bind (wpAny_specialOf hT hint_lri ?_)
  generalize hid : ("list_reverseiterator.__length_hint__" : String) = id0
  wp_delta
  rw [show splitId id0 = some ("list_reverseiterator", "__length_hint__") from by subst hid; decide +kernel]
  subst hid
  refine wpAny_bind (wpAny_isInstance (b := true) hT (by rw [isSubtype_type]; kernel_rfl) ?_)
  exact wpAny_pure h
theorem rev_extend {R : Result → Shared → Prop} (hh : A.handled = none) (hl : s.heap.IsList a items) (hit : s.heap.IsRevIter I a ((items.size : Int) - 1 - (0 : Nat))) (hne : a ≠ I) (hn : items.size ≤ sizeLine) (hSI : S ≠ I) (hSa : S ≠ a) (res : Value) (c₀ : Nat)
    (hS : s.heap.get? S = some { cls := .type "list", data := .seq #[] c₀ })
    (hR : ∀ h' tk acc c', (∀ b o, b ≠ S → b ≠ I → s.heap.get? b = some o → h'.get? b = some o) → h'.get? S = some { cls := .type "list", dict := none, data := .seq acc c', slots := #[] } → ItemsOf (fun i v => items[items.size - 1 - i]? = some v) acc items.size → R (.ok (.ret res)) { s with heap := h', toks := tk }) :
    wpAny (model prog w) A.in1 (Builtin.List.listExtendWith (.ref S) (.ref I) res)
      (fun fin s' => match fin with | .done f => R (.ok f) s' | .again c' => c'.quiet = true ∧ codeAny (model prog w) A c' R s') (fun e s' => R (.error e) s') s := by
  have W := Walks.listRev (prog := prog) (w := w) (A := A.in1) hh I a hne items
  have hSf : S ∉ [I, a] := by simp only [List.mem_cons, List.not_mem_nil, or_false, not_or]; exact ⟨hSI, hSa⟩
  have hT : s.TypeIs (.ref I) "list_reverseiterator" := hit.typeIs
  have same : Builtin.List.listSameRef (.ref S) (.ref I) = false := by simp [Builtin.List.listSameRef, hSI]
  unfold Builtin.List.listExtendWith
  refine wpAny_bind (wpAny_typeOf (T := "list_reverseiterator") hT ?_)
  rw [if_neg (by rw [same]; decide)]
  refine wpAny_bind (wpAny_pyIter_revIter hit ?_)
  refine wpAny_bind (wpAny_holding (hint_rev hT ?_))
  rw [if_neg (by decide)]
  refine wpAny_pure ⟨plainId_quiet PySem.F.plain_extend_loop _, codeAny_extend_loopS W.toS hn S hSf res items.size 0 _ #[] c₀ rfl (Nat.zero_le _) ⟨Nat.zero_le _, hit, hl⟩ hS (ItemsOf.nil _) fun s' acc c' hm hS' hacc => ?_⟩
  rw [Moved.eq_with hm]
  refine hR s'.heap s'.toks acc c' (fun b o h1 h2 e => hm.heap b o (fun hmem => ?_) e) hS' hacc
  rcases List.mem_cons.mp hmem with e' | hmem
  · exact h1 e'
  · exact h2 (List.mem_singleton.mp hmem)
theorem rev_init {R : Result → Shared → Prop} (hh : A.handled = none) (hl : s.heap.IsList a items) (hit : s.heap.IsRevIter I a ((items.size : Int) - 1 - (0 : Nat))) (hne : a ≠ I) (hn : items.size ≤ sizeLine) (hSI : S ≠ I) (hSa : S ≠ a)
    (hS : s.heap.get? S = some { cls := .type "list", data := .seq #[] })
    (hR : ∀ h' tk acc c', (∀ b o, b ≠ S → b ≠ I → s.heap.get? b = some o → h'.get? b = some o) → h'.get? S = some { cls := .type "list", dict := none, data := .seq acc c', slots := #[] } → ItemsOf (fun i v => items[items.size - 1 - i]? = some v) acc items.size → R (.ok (.ret .none)) { s with heap := h', toks := tk }) :
    wpAny (model prog w) A.in1 (Builtin.«list.__init__» ⟨[.ref S, .ref I], []⟩)
      (fun fin s' => match fin with | .done f => R (.ok f) s' | .again c' => c'.quiet = true ∧ codeAny (model prog w) A c' R s') (fun e s' => R (.error e) s') s := by
  show wpAny _ _ (do let old ← Builtin.List.listItems (.ref S); Builtin.List.listUpdate (.ref S) (fun _ => #[]); letGo old.toList.reverse; Builtin.List.listExtendWith (.ref S) (.ref I) .none) _ _ s
  refine wpAny_bind ?_
  unfold Builtin.List.listItems
  refine wpAny_bind (wpAny_seqItems hS rfl (wpAny_pure ?_))
  show wpAny _ _ (updateSeq S (fun _ => #[]) >>= fun _ => letGo (#[] : Array Value).toList.reverse >>= fun _ => Builtin.List.listExtendWith (.ref S) (.ref I) .none) _ _ s
  refine wpAny_bind (wpAny_updateSeq hS rfl ?_)
  have away : ∀ b o, b ≠ S → s.heap.get? b = some o → (s.heap.update S (Obj.mapSeq (fun _ => (#[] : Array Value)))).get? b = some o := fun b o hb e => by rw [Heap.get?_update_other _ _ (Ne.symm hb)]; exact e
  refine wpAny_bind (wpAny_letGo ?_)
  exact rev_extend hh (hl.at fun o e => away a o hSa.symm e) (hit.at fun o e => away I o hSI.symm e) hne hn hSI hSa .none _ (Heap.get?_update_self (Obj.mapSeq (fun _ => (#[] : Array Value))) hS rfl) fun h' tk acc c' hk hS' hacc => hR h' tk acc c' (fun b o h1 h2 e => hk b o h1 h2 (away b o h1 e)) hS' hacc
theorem call_listRev {Q : Value → Shared → Prop} (hh : A.handled = none) (hl : s.heap.IsList a items) (hit : s.heap.IsRevIter I a ((items.size : Int) - 1)) (hne : a ≠ I) (hn : items.size ≤ sizeLine)
    (hQ : ∀ h' tk acc c', (∀ b o, b ≠ I → s.heap.get? b = some o → h'.get? b = some o) → h'.get? s.heap.objs.size = some { cls := .type "list", dict := none, data := .seq acc c', slots := #[] } → ItemsOf (fun i v => items[items.size - 1 - i]? = some v) acc items.size → Q (.ref s.heap.objs.size) { s with heap := h', toks := tk }) :
    wpAny (model prog w) A (call (.type "list") [.ref I]) Q E s := by
  have hit0 : s.heap.IsRevIter I a ((items.size : Int) - 1 - (0 : Nat)) := by rw [show ((items.size : Int) - 1 - ((0 : Nat) : Int)) = (items.size : Int) - 1 by omega]; exact hit
  refine callType_codes (Q₁ := fun obj s₁ => obj = .ref s.heap.objs.size ∧ s₁ = { s with heap := s.heap.push { cls := .type "list", data := .seq #[] } }) PySem.F.called_list (PySem.F.typeCall_list_1 _) PySem.F.entry_list_init (code_list_new _ ⟨rfl, rfl⟩) fun obj s₁ h₁ => ?_
  obtain ⟨rfl, rfl⟩ := h₁
  have up : ∀ b o, s.heap.get? b = some o → (s.heap.push { cls := .type "list", data := .seq #[] }).get? b = some o := fun b o e => Heap.get?_push_of_some _ e
  have hS : (s.heap.push { cls := .type "list", data := .seq #[] }).get? s.heap.objs.size = some { cls := .type "list", data := .seq #[] } := Heap.get?_push_size _ rfl
  obtain ⟨ol, hol, _⟩ := id hl
  obtain ⟨oi, hoi, _⟩ := id hit
  refine ⟨⟨_, hS, rfl⟩, PySem.F.args_list_init_2 _ _, rev_init (A := A.in1) hh (hl.at fun o e => up a o e) (hit0.at fun o e => up I o e) hne hn (Nat.ne_of_gt (Heap.lt_size hoi)) (Nat.ne_of_gt (Heap.lt_size hol)) hS fun h' tk acc c' hk hS' hacc => ⟨rfl, hQ h' tk acc c' (fun b o h2 e => hk b o (Nat.ne_of_lt (Heap.lt_size e)) h2 (up b o e)) hS' hacc⟩⟩
end
section
variable {X : Cx}
theorem pe_listRev {e : Expr} {te : TE} {p p2 pos pos2 : Pos} (hg : Gl X "list") (hm : X.mg "list" = none) (hg2 : Gl X "reversed") (hm2 : X.mg "reversed" = none) (he : PE X e te) (hc : X.calm = true := by rfl)
    (hs : starEach [e] X.env = (false, eval e X.env) :: starEach [] X.env := by rfl)
    (hs2 : starEach [.Call (.Name "reversed" p2) [e] [] pos2] X.env = (false, eval (.Call (.Name "reversed" p2) [e] [] pos2) X.env) :: starEach [] X.env := by rfl) :
    PE X (.Call (.Name "list" p) [.Call (.Name "reversed" p2) [e] [] pos2] [] pos) (tRevL X.K te) := by
  refine ⟨fun pins s σ H Q I h => ?_⟩
  refine Call_ (ld_blt I hg hm PyProof.Rows.boot_list (PyProof.Rows.callWith_type1 (args_cons (Call_ (ld_blt I hg2 hm2 PyProof.Rows.boot_reversed (PyProof.Rows.callWith_type1 (args_cons (thn (he.run pins s σ H _ I h) fun u s1 ⟨v, H1, I1, r1, q1⟩ => args_nil ?_) hs) hs rfl))) hs2) hs2 rfl))
  obtain ⟨a, xs, rfl, hq, q⟩ := q1
  cases r1
  obtain ⟨its, rv, pl, hz⟩ := I1.list hq
  refine call_reversed_list pl.isList (args_nil ?_)
  have hl := pl.isList
  obtain ⟨ol, hol, _⟩ := id hl
  have hn : its.toArray.size ≤ sizeLine := by rw [List.size_toArray, ← rv.length]; exact hz
  refine call_listRev (s := { s1 with heap := s1.heap.push (revObj a ((its.toArray.size : Int) - 1)) }) (I1.ok.hd hc) (hl.push _) ⟨_, Heap.get?_push_size _ rfl, rfl, rfl⟩ (Nat.ne_of_lt (Heap.lt_size hol)) hn fun h' tk acc c' hk hS hacc => ?_
  have keep : ∀ b o, s1.heap.get? b = some o → h'.get? b = some o := fun b o e => hk b o (Nat.ne_of_lt (Heap.lt_size e)) (Heap.get?_push_of_some _ e)
  have far : s1.heap.objs.size ≤ (s1.heap.push (revObj a ((its.toArray.size : Int) - 1))).objs.size := by rw [Heap.size_push]; omega
  refine ⟨.ref _, _, I1.laid (t' := tk) (o := .lst xs.reverse) keep far ⟨by rw [List.length_reverse]; exact hz, acc.toList, c', RT.vals_rev rv hacc, ?_⟩, rfl, q _ (I1.hok.fresh far)⟩
  rw [Array.toArray_toList]
  exact hS
end
section
variable {X : Cx} {α β γ δ S W ν : Type} {e a k v o : Expr} {ρ : Env} {L : Ow} {p p2 pos pos2 q px apos cpos : Pos} {d : α → PyData}
theorem n_listRev {o : Option (List α)} (h : QL X d e ρ L o) (hm : X.mg "list" = none) (hm2 : X.mg "reversed" = none)
    (hs : starEach [e] X.env = (false, eval e X.env) :: starEach [] X.env := by rfl)
    (hs2 : starEach [.Call (.Name "reversed" p2) [e] [] pos2] X.env = (false, eval (.Call (.Name "reversed" p2) [e] [] pos2) X.env) :: starEach [] X.env := by rfl)
    (hh : X.mg "list" = none → X.mg "reversed" = none → ∀ {te}, PE X e te → PE X (.Call (.Name "list" p) [.Call (.Name "reversed" p2) [e] [] pos2] [] pos) (tRevL X.K te) := by intro hm hm2 _ h; exact pe_listRev (by rfl) hm (by rfl) hm2 h) :
    EN X d (.Call (.Name "list" p) [.Call (.Name "reversed" p2) [e] [] pos2] [] pos) ρ L (o.map List.reverse) := by
  obtain ⟨t, pf, h⟩ := h
  refine ⟨_, hh hm hm2 pf, fun z hz B F0 σ H vs ds Q s k => ?_⟩
  obtain ⟨xs, hx, rfl⟩ := Option.map_eq_some_iff.mp hz
  refine h xs hx B F0 σ H vs ds _ s fun v sl H1 q s1 => ?_
  obtain ⟨a, us, rfl, h1, h2, h4, h3⟩ := s1.lstOf q
  refine ⟨a, us, rfl, SqL.of h1, fun r hr => k r _ (St.newLst (us := us.reverse) (h3.stack fun F g => ?_) (by rw [List.length_reverse, h2]; simp) hr (by rw [List.length_reverse]; exact h4))⟩
  obtain ⟨r1, r2⟩ := pr_split (by rw [List.length_map]; exact h2) g
  rw [List.map_reverse, List.map_reverse]
  exact pr_app (pr_rev r1) (by cases r2 with | cons _ t => exact t)
/-- a pair, four as a tuple -/
theorem x_p2t {o : Option (α × α)} (h : EX X (dP d d) e ρ L o) : EX X (dT d) e ρ L (o.map fun q => [q.1, q.2]) := by
  obtain ⟨t, p, h⟩ := h
  refine ⟨t, p, fun z hz B F0 σ H vs ds Q s k => ?_⟩
  obtain ⟨q, hx, rfl⟩ := Option.map_eq_some_iff.mp hz
  exact h q hx B F0 σ H vs ds Q s fun v H' s' => k v H' s'
theorem x_p4t {o : Option (α × α × α × α)} (h : EX X (dP4 d d d d) e ρ L o) : EX X (dT d) e ρ L (o.map fun q => [q.1, q.2.1, q.2.2.1, q.2.2.2]) := by
  obtain ⟨t, p, h⟩ := h
  refine ⟨t, p, fun z hz B F0 σ H vs ds Q s k => ?_⟩
  obtain ⟨q, hx, rfl⟩ := Option.map_eq_some_iff.mp hz
  exact h q hx B F0 σ H vs ds Q s fun v H' s' => k v H' s'
end
/-! ### sorted(set(xs)), len(set(xs)): xs a list of ints -/
/-- an empty set -/
abbrev set0 (w : World) : Obj := { cls := .type "set", dict := none, data := .set #[] 0 (.fresh 0 0 (!w.params.followText "set-order")) }
section
variable {P : Program} {w : World} {A : Around} {E : Value → Shared → Prop} {s : Shared} {l S : Addr} {items : Array Value} {ns : List Int}
theorem set_fill {R : Result → Shared → Prop} (hh : A.handled = none) (hit : IntsAre items.toList ns) (hb : ns.length + 1 < scanBound) (hl : s.heap.IsList l items) (hS : s.heap.get? S = some (set0 w)) (hne : l ≠ S)
    (hR : ∀ h' tk c, SetR w h' S (fun j => decide (j ∈ ns)) c → c ≤ ns.length → (∀ b o, b ≠ S → s.heap.get? b = some o → h'.get? b = some o) → R (.ok (.ret .none)) { s with heap := h', toks := tk }) :
    wpAny (model P w) A.in1 (Builtin.«set.__init__» ⟨[.ref S, .ref l], []⟩)
      (fun fin s' => match fin with | .done f => R (.ok f) s' | .again c' => c'.quiet = true ∧ codeAny (model P w) A c' R s') (fun e s' => R (.error e) s') s := by
  have hsz : items.size = ns.length := by rw [← Array.length_toList]; exact IntsAre.length hit
  have val : ∀ (i : Nat) (v : Value), items[i]? = some v → ∃ k t, ns[i]? = some k ∧ v = .int k t := fun i v hv => by
    have hi : i < ns.length := by rw [← hsz]; exact (Array.getElem?_eq_some_iff.mp hv).1
    obtain ⟨t, e⟩ := IntsAre.int_at hit i v (by rw [Array.getElem?_toList]; exact hv)
    exact ⟨ns[i], t, List.getElem?_eq_getElem hi, by rw [e, List.getD_eq_getElem?_getD, List.getElem?_eq_getElem hi]; rfl⟩
  obtain ⟨⟨lc, ld, lD, lS⟩, hol, hcl, nl, hdl⟩ := id hl
  simp only at hcl hdl
  subst hcl hdl
  have T : s.TypeIs (.ref S) "set" := ⟨_, hS, rfl⟩
  have n1 := PySem.F.sub_list_set
  have n2 := PySem.F.sub_list_frozenset
  have n3 : (Value.type "list" == Value.type "dict") = false := by decide
  unfold Builtin.«set.__init__» noKeywords Builtin.Frozenset.updateFrom
  generalize hPI : pyIter = PI
  wp_walk
  subst hPI
  refine wpAny_pyIter_list hl (wpAny_bind (wpAny_runValue ?_))
  have hSs : S < s.heap.objs.size := Heap.lt_size hS
  have hls : l < s.heap.objs.size := Heap.lt_size hol
  have off : S ∉ [s.heap.objs.size, l] := by
    simp only [List.mem_cons, List.not_mem_nil, or_false, not_or]
    exact ⟨Nat.ne_of_lt hSs, hne.symm⟩
  refine set_update_ints ((Walks.list (A := A.in1.in1) (by simpa using hh) s.heap.objs.size l (Nat.ne_of_lt hls) items).toS) S off ns hsz hb val (items.size - 0) 0 _ rfl (Nat.zero_le _)
    ⟨⟨_, Heap.get?_push_size _ rfl, rfl, rfl⟩, hl.push _⟩ ⟨0, Nat.le_refl 0, setR_new_at (Heap.get?_push_of_some _ hS)⟩ fun s' c' hm hc' hS' => ?_
  rw [Moved.eq_with hm]
  show wpAny _ _ _ _ _ _
  refine wpAny_pure (wpAny_pure (hR s'.heap s'.toks c' hS' (by rw [← hsz]; exact hc') fun b o hb e => hm.heap b o (fun hmem => ?_) (Heap.get?_push_of_some _ e)))
  rcases List.mem_cons.mp hmem with e' | hmem
  · exact hb e'
  · exact Nat.ne_of_lt (Heap.lt_size e) (List.mem_singleton.mp hmem)
theorem call_setL {Q : Value → Shared → Prop} (hh : A.handled = none) (hl : s.heap.IsList l items) (hit : IntsAre items.toList ns) (hb : ns.length + 1 < scanBound)
    (h : ∀ h' tk c, SetR w h' s.heap.objs.size (fun j => decide (j ∈ ns)) c → c ≤ ns.length → (∀ b o, s.heap.get? b = some o → h'.get? b = some o) → Q (.ref s.heap.objs.size) { s with heap := h', toks := tk }) :
    wpAny (model P w) A (call (.type "set") [.ref l]) Q E s := by
  obtain ⟨c, tl, hmro⟩ := PySem.F.called_set.mro
  have hmade := PySem.F.called_set.made
  have hsub := PySem.F.called_set.sub
  have nt := PySem.F.called_set.notType
  have cc := PySem.F.called_set.canCreate
  have tc := PySem.F.typeCall_set_1 (.ref l)
  have il := PySem.F.called_set.init.lookup
  refine wpAny_call (codeAny_of_tree ?_)
  show wpAny _ _ (callAny (.type "set") _) _ _ _
  refine wpAny_pure ⟨Code.quiet_builtin _ (by decide +kernel), codeAny_builtin PySem.F.entry_type_call ?_⟩
  rw [Around.under_plain (weight_type_call_type "set" [.ref l] []) rfl]
  repeat (any_goals (first | assumption | wp_step))
  refine codeAny_mono (code_set_led1 (.ref l) (E := E) (Q₁ := fun obj s₁ => obj = .ref s.heap.objs.size ∧ s₁ = { s with heap := s.heap.push (set0 w) }) ⟨rfl, rfl⟩) fun r s₁ hr => ?_
  cases r with
  | error e => exact hr
  | ok fl =>
    cases fl with
    | ret obj =>
      obtain ⟨rfl, rfl⟩ := hr
      have hS : (s.heap.push (set0 w)).get? s.heap.objs.size = some (set0 w) := Heap.get?_push_size _ rfl
      have ib := PySem.F.called_set.init.bind (.ref s.heap.objs.size)
      obtain ⟨ol, hol, _⟩ := id hl
      repeat (any_goals (first | assumption | wp_step))
      refine codeAny_mono (codeAny_call_builtin (R := wants (fun r s₂ => r = .none ∧ Q (.ref s.heap.objs.size) s₂) E) PySem.F.called_set.init.plain PySem.F.entry_set_init (check_set_init_1 ⟨_, hS, rfl⟩ ?_)) fun r₂ s₂ hr₂ => ?_
      · exact set_fill (s := { s with heap := s.heap.push (set0 w) }) (A := A.in1) hh hit hb (hl.push _) hS (Nat.ne_of_lt (Heap.lt_size hol)) fun h' tk c h1 h2 h3 => ⟨rfl, h h' tk c h1 h2 fun b o e => h3 b o (Nat.ne_of_lt (Heap.lt_size e)) (Heap.get?_push_of_some _ e)⟩
      · cases r₂ with
        | error e => exact hr₂
        | ok fl₂ =>
          cases fl₂ with
          | ret r =>
            obtain ⟨rfl, q⟩ := hr₂
            repeat (any_goals (first | assumption | wp_step))
          | _ => exact hr₂.elim
    | _ => exact hr.elim
end
section
variable {X : Cx} {a : Expr} {ta : TE} {p p2 q pos : Pos}
theorem sset_card {ns ks : List Int} (nd : ks.Nodup) (h : ∀ k, k ∈ ns ↔ k ∈ ks) : (sset ns).length = ks.length :=
  ((List.perm_ext_iff_of_nodup ((sset_lt ns).imp fun h => Int.ne_of_lt h) nd).mpr fun k => by rw [mem_sset, h]).length_eq
def tSortSetL (K : PySem.W.Frag) (te : TE) : TE := fun σ H Q => te σ H fun v H1 => ∃ p ns, v = .ref p ∧ SqL K H1 p (ns.map V.int) ∧ ns.length < 64 ∧ ∀ q, H1 q = none → Q (.ref q) (upd H1 q (.lst ((sset ns).map V.int)))
theorem pe_sortSetL (hg : Gl X "sorted") (hm : X.mg "sorted" = none) (hg2 : Gl X "set") (hm2 : X.mg "set" = none) (ha : PE X a ta) (hc : X.calm = true := by rfl)
    (na : starEach [a] X.env = (false, eval a X.env) :: starEach [] X.env := by rfl) : PE X (.Call (.Name "sorted" p) [.Call (.Name "set" p2) [a] [] q] [] pos) (tSortSetL X.K ta) := by
  refine ⟨fun pins s σ H Q I h => Call_ (ld_blt I hg hm (show bootBuiltins "sorted" = some (.builtin "sorted") by decide +kernel) ?_)⟩
  refine PyProof.Rows.callWith_builtin1 (PyProof.Rows.args_cons ?_ rfl) rfl rfl
  refine Call_ (ld_blt I hg2 hm2 PyProof.Rows.boot_set ?_)
  refine PyProof.Rows.callWith_type1 (PyProof.Rows.args_cons (thn (ha.run pins s σ H _ I h) fun v s1 ⟨x, H1, I1, r1, q1⟩ => PyProof.Rows.args_nil ?_) na) na rfl
  obtain ⟨l, ns, rfl, hq, hl, q1⟩ := q1
  cases r1
  obtain ⟨its, rv, pl, hz⟩ := I1.list hq
  refine call_setL (I1.ok.hd hc) pl.isList (by simpa using ints_of_vals rv) (by unfold scanBound; omega) fun h' tk n hS hn hkeep => PyProof.Rows.args_nil ?_
  refine sorted_set (s := { s1 with heap := h', toks := tk }) hS (I1.ok.hd hc) (by omega) fun s' p out c ms k1 g1 o1 hz hp hi hlt hmem hlen => ?_
  have e : ms = sset ns := lt_unique hlt (sset_lt ns) fun k => by rw [hmem, mem_sset, decide_eq_true_iff]
  subst e
  have up : ∀ b u, s1.heap.get? b = some u → s'.heap.get? b = some u := fun b u e => k1 b u (hkeep b u e)
  have far : s1.heap.objs.size ≤ p := by
    obtain ⟨o, _, _, _, ho, _⟩ := hS
    exact Nat.le_trans (Nat.le_of_lt (Heap.lt_size ho)) hz
  have J : Inv X pins σ (upd H1 p (.lst ((sset ns).map V.int))) { s1 with heap := s'.heap, gens := s'.gens, drawn := s'.drawn, toks := s'.toks } :=
    I1.call (ch := []) (Un.laid up far (I1.hok.fresh far)) (I1.hok.laid up far ⟨by rw [List.length_map, hlen, sizeLine_eq]; omega, out.toList, c, vals_of_ints hi, by rw [Array.toArray_toList]; exact hp⟩) (by rw [g1]; exact I1.bare) (fun _ z => nomatch z)
  refine ⟨.ref p, _, ?_, rfl, q1 p (I1.hok.fresh far)⟩
  have e : s' = { s1 with heap := s'.heap, gens := s'.gens, drawn := s'.drawn, toks := s'.toks } := by
    cases s'
    cases s1
    cases o1
    rfl
  rw [e]
  exact J
def tLenSetL (K : PySem.W.Frag) (te : TE) : TE := fun σ H Q => te σ H fun v H1 => ∃ p ns, v = .ref p ∧ SqL K H1 p (ns.map V.int) ∧ ns.length < 64 ∧ Q (.int ((sset ns).length : Nat)) H1
theorem pe_lenSetL (hg : Gl X "len") (hm : X.mg "len" = none) (hg2 : Gl X "set") (hm2 : X.mg "set" = none) (ha : PE X a ta) (hc : X.calm = true := by rfl)
    (na : starEach [a] X.env = (false, eval a X.env) :: starEach [] X.env := by rfl) : PE X (.Call (.Name "len" p) [.Call (.Name "set" p2) [a] [] q] [] pos) (tLenSetL X.K ta) := by
  refine ⟨fun pins s σ H Q I h => Call_ (ld_blt I hg hm PySem.boot_len ?_)⟩
  refine PyProof.Rows.callWith_builtin1 (PyProof.Rows.args_cons ?_ rfl) rfl rfl
  refine Call_ (ld_blt I hg2 hm2 PyProof.Rows.boot_set ?_)
  refine PyProof.Rows.callWith_type1 (PyProof.Rows.args_cons (thn (ha.run pins s σ H _ I h) fun v s1 ⟨x, H1, I1, r1, q1⟩ => PyProof.Rows.args_nil ?_) na) na rfl
  obtain ⟨l, ns, rfl, hq, hl, q1⟩ := q1
  cases r1
  obtain ⟨its, rv, pl, hz⟩ := I1.list hq
  refine call_setL (I1.ok.hd hc) pl.isList (by simpa using ints_of_vals rv) (by unfold scanBound; omega) fun h' tk n hS hn hkeep => PyProof.Rows.args_nil ?_
  obtain ⟨o, es, ep, t, ho, hex, hd, g, nd, hmm, hb, hf, hsz, hr, hld⟩ := hS
  have ec : (sset ns).length = es.size := by rw [sset_card nd fun k => by rw [← hmm, decide_eq_true_iff], List.length_map, Array.length_toList]
  have I2 : Inv X pins σ H1 { s1 with heap := h', toks := tk } := I1.kept hkeep
  refine call_len_set ho hex hd hf (by omega) ⟨.int ((sset ns).length : Nat), H1, I2.tok _, ⟨_, by rw [ec]⟩, q1⟩
end
section
variable {X : Cx} {α β γ δ S W ν : Type} {e a k v o : Expr} {ρ : Env} {L : Ow} {p p2 pos q px apos cpos : Pos} {d : α → PyData}
theorem sset_le (xs : List Int) : (sset xs).length ≤ xs.length := by
  have put : ∀ (x : Int) (a : List Int), (insS x a).length ≤ a.length + 1 := fun x a => by
    induction a with
    | nil => simp [insS]
    | cons y a ih =>
      unfold insS
      split
      · simp
      · split
        · simp
        · simp only [List.length_cons]; omega
  have go : ∀ (xs a : List Int), (xs.foldl (fun a x => insS x a) a).length ≤ xs.length + a.length := fun xs => by
    induction xs with
    | nil => intro a; simp
    | cons x xs ih =>
      intro a
      have h1 := ih (insS x a)
      have h2 := put x a
      simp only [List.foldl_cons, List.length_cons]
      omega
  simpa [sset] using go xs []
theorem n_sortedSetL {o : Option (List Int)} (h : QL X dI e ρ L o) (hm : X.mg "sorted" = none) (hm2 : X.mg "set" = none) (na : starEach [e] X.env = (false, eval e X.env) :: starEach [] X.env := by rfl)
    (hh : X.mg "sorted" = none → X.mg "set" = none → ∀ {ta}, PE X e ta → PE X (.Call (.Name "sorted" p) [.Call (.Name "set" p2) [e] [] q] [] pos) (tSortSetL X.K ta) := by intro hm hm2 _ h; exact pe_sortSetL (by rfl) hm (by rfl) hm2 h) :
    EN X dI (.Call (.Name "sorted" p) [.Call (.Name "set" p2) [e] [] q] [] pos) ρ L (o.bind ssetO) := by
  obtain ⟨t, p, h⟩ := h
  refine ⟨_, hh hm hm2 p, fun z hz B F0 σ H vs ds Q s k => ?_⟩
  obtain ⟨xs, hx, hz⟩ := Option.bind_eq_some_iff.mp hz
  unfold ssetO at hz
  split at hz
  rotate_left
  · cases hz
  rename_i hl
  obtain rfl : sset xs = z := by simpa using hz
  refine h xs hx B F0 σ H vs ds _ s fun v sl H1 q s1 => ?_
  obtain ⟨a, us, rfl, h1, h2, h4, h3⟩ := s1.lstOf q
  rw [List.length_map] at h2
  have e := h3.ints h2
  subst e
  refine ⟨a, xs, rfl, SqL.of h1, hl, fun q hq => k q _ (St.newLst (us := (sset xs).map V.int) (ints_st _ s1.pop) (by simp) hq ?_)⟩
  have := sset_le xs
  rw [List.length_map, sizeLine_eq]
  omega
noncomputable def lsetO (xs : List Int) : Option Int := @ite _ (xs.length < 64) (Classical.propDecidable _) (some ((sset xs).length : Int)) none
theorem x_lenSet {o : Option (List Int)} (h : QL X dI e ρ L o) (hm : X.mg "len" = none) (hm2 : X.mg "set" = none) (na : starEach [e] X.env = (false, eval e X.env) :: starEach [] X.env := by rfl)
    (hh : X.mg "len" = none → X.mg "set" = none → ∀ {ta}, PE X e ta → PE X (.Call (.Name "len" p) [.Call (.Name "set" p2) [e] [] q] [] pos) (tLenSetL X.K ta) := by intro hm hm2 _ h; exact pe_lenSetL (by rfl) hm (by rfl) hm2 h) :
    EX X dI (.Call (.Name "len" p) [.Call (.Name "set" p2) [e] [] q] [] pos) ρ L (o.bind lsetO) := by
  obtain ⟨t, p, h⟩ := h
  refine ⟨_, hh hm hm2 p, fun z hz B F0 σ H vs ds Q s k => ?_⟩
  obtain ⟨xs, hx, hz⟩ := Option.bind_eq_some_iff.mp hz
  unfold lsetO at hz
  split at hz
  rotate_left
  · cases hz
  rename_i hl
  obtain rfl : ((sset xs).length : Int) = z := by simpa using hz
  refine h xs hx B F0 σ H vs ds _ s fun v sl H1 q s1 => ?_
  obtain ⟨a, us, rfl, h1, h2, h4, h3⟩ := s1.lstOf q
  rw [List.length_map] at h2
  have e := h3.ints h2
  subst e
  exact ⟨a, xs, rfl, SqL.of h1, hl, k _ _ s1.pop.int⟩
end
/-! ### orders of rows of ints -/
section
theorem cmp_ints : Cmp (dT dI) (fun a b => decide (a < b)) := by
  refine ⟨fun a b => ?_, fun _ h => (by cases h), fun a => ?_, fun a b => ?_⟩
  · show PySem.W.alikeAll (a.map dI) (b.map dI) = true
    induction a generalizing b with
    | nil => rfl
    | cons x a ih => cases b with
      | nil => rfl
      | cons y b => show (PySem.W.alike (.int x) (.int y) && PySem.W.alikeAll (a.map dI) (b.map dI)) = true; rw [ih]; simp [PySem.W.alike]
  · show (PyData.tuple (a.map dI)).depth ≤ 60
    rw [PyData.depth]
    have := depthAll_le (n := 1) (a.map dI) (fun x hx => by obtain ⟨y, _, rfl⟩ := List.mem_map.mp hx; simp [dI, PyData.depth])
    omega
  · show PySem.W.dataLt (.tuple (a.map PyData.int)) (.tuple (b.map PyData.int)) = _
    rw [PySem.W.dataLt_tuple]
    exact PySem.W.dataLt_ints a b
abbrev row4 (a : Int × Int × Int × Int) : List Int := [a.1, a.2.1, a.2.2.1, a.2.2.2]
theorem cmp_4 : Cmp (dP4 dI dI dI dI) (fun a b => decide (row4 a < row4 b)) :=
  ⟨fun a b => cmp_ints.ali (row4 a) (row4 b), fun a h => (by cases h), fun a => cmp_ints.dep (row4 a), fun a b => cmp_ints.lt (row4 a) (row4 b)⟩
end
end Mir
namespace Mir
open PySem PySem.Spec PyProof.Rows L2
/-! ### and, or in a test that turns the world; xs.pop(i) by what turns it -/
section
variable {X : Cx} {α β γ δ S W ν : Type} {a b e k v o i : Expr} {ρ : Env} {p : Addr} {pos apos cpos : Pos} {d : α → PyData} {es : List Expr} {Lf : W → Ow} {w : W}
def WM {W : Type} (X : Cx) (e : Expr) (ρ : Env) (Lf : W → Ow) (w : W) (m : Option (Bool × W)) : Prop :=
  ∃ t, PW X e t ∧ ∀ a w', m = some (a, w') → ∀ B F0 σ H vs ds Q, St X.K B F0 ρ (Lf w) σ H vs ds → (∀ H', St X.K B F0 ρ (Lf w') σ H' vs ds → Q a H') → t σ H Q
theorem WM.t {m : Option (Bool × W)} (h : WM X e ρ Lf w m) : TM X e ρ Lf w m := by
  obtain ⟨t, p, h⟩ := h
  exact ⟨_, p.pt, h⟩
theorem wm_and1 {m : Option (Bool × W)} (h : TM X e ρ Lf w m) : WM X (.BoolOp .And [e] pos) ρ Lf w m := by
  obtain ⟨t, p, h⟩ := h
  exact ⟨_, pw_and1 p, h⟩
theorem wm_or1 {m : Option (Bool × W)} (h : TM X e ρ Lf w m) : WM X (.BoolOp .Or [e] pos) ρ Lf w m := by
  obtain ⟨t, p, h⟩ := h
  exact ⟨_, pw_or1 p, h⟩
theorem WM.all {k : W → Option (Bool × W)} (h : ∀ w, WM X e ρ Lf w (k w)) :
    ∃ t, PW X e t ∧ ∀ w b w', k w = some (b, w') → ∀ B F0 σ H vs ds Q, St X.K B F0 ρ (Lf w) σ H vs ds → (∀ H', St X.K B F0 ρ (Lf w') σ H' vs ds → Q b H') → t σ H Q := by
  refine ⟨fun σ H Q => ∃ w b w' B F0 vs ds, k w = some (b, w') ∧ St X.K B F0 ρ (Lf w) σ H vs ds ∧ ∀ H', St X.K B F0 ρ (Lf w') σ H' vs ds → Q b H', ⟨fun whole pins s σ H Q I h2 => ?_⟩, fun w b w' e B F0 σ H vs ds Q q g => ⟨w, b, w', B, F0, vs, ds, e, q, g⟩⟩
  obtain ⟨w1, b, w', B, F0, vs, ds, e, q, g⟩ := h2
  obtain ⟨t, p, h⟩ := h w1
  exact p.run whole pins s σ H Q I (h b w' e B F0 σ H vs ds Q q g)
theorem wm_and {m : Option (Bool × W)} {m' : W → Option (Bool × W)} (h : TM X a ρ Lf w m) (h' : ∀ w, WM X (.BoolOp .And (b :: es) pos) ρ Lf w (m' w)) : WM X (.BoolOp .And (a :: b :: es) pos) ρ Lf w (m.bind fun x => if x.1 then m' x.2 else some (false, x.2)) := by
  obtain ⟨t, p, h⟩ := h
  obtain ⟨t', p', h'⟩ := WM.all h'
  refine ⟨_, pw_and p p', fun z w' hz B F0 σ H vs ds Q s k => ?_⟩
  obtain ⟨⟨x, w1⟩, hx, hz⟩ := Option.bind_eq_some_iff.mp hz
  refine h x w1 hx B F0 σ H vs ds _ s fun H1 s1 => ?_
  cases x with
  | true => exact iteT (h' w1 z w' (by simpa using hz) B F0 σ H1 vs ds Q s1 k)
  | false =>
    have e : (false, w1) = (z, w') := by simpa using hz
    cases e
    exact iteF (k _ s1)
theorem wm_or {m : Option (Bool × W)} {m' : W → Option (Bool × W)} (h : TM X a ρ Lf w m) (h' : ∀ w, WM X (.BoolOp .Or (b :: es) pos) ρ Lf w (m' w)) : WM X (.BoolOp .Or (a :: b :: es) pos) ρ Lf w (m.bind fun x => if x.1 then some (true, x.2) else m' x.2) := by
  obtain ⟨t, p, h⟩ := h
  obtain ⟨t', p', h'⟩ := WM.all h'
  refine ⟨_, pw_or p p', fun z w' hz B F0 σ H vs ds Q s k => ?_⟩
  obtain ⟨⟨x, w1⟩, hx, hz⟩ := Option.bind_eq_some_iff.mp hz
  refine h x w1 hx B F0 σ H vs ds _ s fun H1 s1 => ?_
  cases x with
  | false => exact iteF (h' w1 z w' (by simpa using hz) B F0 σ H1 vs ds Q s1 k)
  | true =>
    have e : (true, w1) = (z, w') := by simpa using hz
    cases e
    exact iteT (k _ s1)
theorem s_popM {xs : List α} {mi : Option (Int × W)} (j : Nat) (hL : ∀ w, (Lf w)[j]? = some (p, odL d xs)) (ho : ∀ w, ES X o ρ (Lf w) (some (.ptr p))) (hi : EM X dI i ρ Lf w mi) (hs : swapsWith (.Call (.Attribute o "pop" apos) [i] [] cpos) none pos.line X.env = pure false := by rfl)
    (hh : ∀ {to te}, PE X o to → PE X i te → PE X (.Call (.Attribute o "pop" apos) [i] [] cpos) (tBM X.K "list" rPopAt to (tCons te tNil)) := by intro _ _ h1 h2; exact pe_bm PySem.F.plainAttrs_list PySem.F.slot_list_pop PySem.F.type_list_pop mt_popAt h1 (pa_cons h2 pa_nil)) :
    SX X (.Expr (.Call (.Attribute o "pop" apos) [i] [] cpos) pos) ρ (Lf w) (mi.bind fun k => (popO xs k.1).map fun q => (q, k.2)) (ocn fun q => (ρ, (Lf q.2).set j (p, odL d q.1.2))) := by
  obtain ⟨to, po, ho⟩ := ho w
  obtain ⟨ti, pi, hi⟩ := hi
  refine ⟨_, ps_expr (hh po pi) hs, fun z hz B F0 σ H vs ds D s q => ?_⟩
  obtain ⟨⟨n, w1⟩, hk, hz⟩ := Option.bind_eq_some_iff.mp hz
  obtain ⟨y, hy, rfl⟩ := Option.map_eq_some_iff.mp hz
  refine ho _ rfl B F0 σ H vs ds _ s fun v H1 s1 => ?_
  obtain ⟨us1, g1, _, _, _⟩ := s1.own1 (mem_at (hL w))
  have ev := s1.isPtr
  subst ev
  refine ⟨.inl ⟨rfl, _, SqL.of g1⟩, hi n w1 hk B F0 σ H1 _ _ _ s1 fun u H2 s2 => ?_⟩
  rw [s2.isInt]
  exact pop_core (hL w1) hy s2.pop.pop fun v H' s3 => q _ _ s3.pop
end
end Mir
namespace Mir
open PySem PySem.Spec PyProof.Rows L2
/-! ### the tables at the end -/
theorem tabE_of {K : PySem.W.Frag} {h : Heap} {f cc Pt : Addr} {oc : Value} {od : Option Addr} {fd : FuncData} {sl : Array (Option Value)} (l : K.lookup f = some ⟨oc, od, .func fd, sl⟩) (hc : fd.code = .ref cc) (hd : PySem.W.codeHdIn K cc Pt = true) (T : TabE K h f cc Pt) : h.get? Pt = some { cls := .none, data := .fields #[] } := by
  have key : ∃ (e : Value) (dd : Option Addr) (vs : Array Value) (sl : Array (Option Value)), K.lookup cc = some ⟨e, dd, .fields vs, sl⟩ ∧ vs[11]? = some (.ref Pt) := by
    unfold PySem.W.codeHdIn at hd
    split at hd
    · rename_i dd vs sl hk
      simp only [Bool.and_eq_true] at hd
      obtain ⟨⟨⟨⟨⟨e1, _⟩, _⟩, _⟩, _⟩, _⟩ := hd
      split at e1
      · rename_i P' h11
        have := beq_iff_eq.mp e1
        subst this
        exact ⟨_, _, _, _, hk, h11⟩
      · cases e1
    · cases hd
  obtain ⟨e, dd, vs, sl2, h1, h2⟩ := key
  exact T ⟨_, fd, e, dd, vs, sl2, l, rfl, hc, h1, h2⟩
end Mir
namespace Mir
open PySem PySem.Spec PyProof.Rows L2
/-! ### a dict of whole numbers' keys as data -/
section
variable {ν : Type}
def dC (dv : ν → PyData) (kvs : List (Int × ν)) : PyData := .dict (kvs.map fun q => (.int q.1, dv q.2))
theorem rpk_of {F : Hp} {K : PySem.W.Frag} {dv : ν → PyData} : ∀ {ws : List (Key × V)} {kvs : List (Int × ν)}, DKR K F ws (kvs.map (encK dI dv)) → RpK F ws (kvs.map fun q => (.int q.1, dv q.2))
  | _, [], h => by cases h; exact .nil
  | _, q :: kvs, h => by
    cases h with
    | @cons w _ ws _ r t =>
      obtain ⟨k, v⟩ := w
      have e : k = .inl q.1 := (kD_inj (show kD (.inl q.1) = kD k from r.1)).symm
      subst e
      exact .cons r.2 (rpk_of t)
theorem rpk_get {F : Hp} {dv : ν → PyData} (k : Int) : ∀ {ws : List (Key × V)} {kvs : List (Int × ν)}, RpK F ws (kvs.map fun q => (.int q.1, dv q.2)) →
    (∀ x, dget kvs k = some x → ∃ v, valV ws (.inl k) = some v ∧ Rp F v (dv x)) ∧ (dget kvs k = none → valV ws (.inl k) = none)
  | ws, [], h => by
    cases h
    exact ⟨fun x e => (by simp [dget] at e), fun _ => rfl⟩
  | ws, q :: kvs, h => by
    generalize hd : ((q :: kvs).map fun q => ((PyData.int q.1 : PyData), dv q.2)) = ds at h
    cases h with
    | nil => cases hd
    | @cons k' v ws' d kv' r t =>
      rw [List.map_cons] at hd
      injection hd with h1 h2
      injection h1 with h3 h4
      subst h2 h4
      have e : k' = .inl q.1 := kD_inj h3.symm
      subst e
      obtain ⟨i1, i2⟩ := rpk_get k t
      by_cases e : q.1 = k
      · refine ⟨fun x h => ⟨v, ?_, ?_⟩, fun h => ?_⟩
        · unfold valV
          rw [List.find?_cons, show decide ((Sum.inl q.1, v).1 = (Sum.inl k : Key)) = true from decide_eq_true (by rw [e])]
          rfl
        · have h' : q.2 = x := by simpa [dget, List.find?_cons, e] using h
          rw [← h']; exact r
        · simp [dget, List.find?_cons, e] at h
      · have ne : (Sum.inl q.1 : Key) ≠ Sum.inl k := fun z => e (Sum.inl.inj z)
        have e1 : dget (q :: kvs) k = dget kvs k := by simp [dget, List.find?_cons, e]
        have e2 : valV ((Sum.inl q.1, v) :: ws') (Sum.inl k) = valV ws' (.inl k) := by
          unfold valV
          rw [List.find?_cons, show decide ((Sum.inl q.1, v).1 = (Sum.inl k : Key)) = false from decide_eq_false ne]
        rw [e1, e2]
        exact ⟨i1, i2⟩
/-- what a held dict answers -/
theorem dc_get {F H : Hp} {dv : ν → PyData} {v : V} {kvs : List (Int × ν)} (h : Rp F v (dC dv kvs)) (le : Same F H) : ∃ a, v = .ref a ∧ ∀ k, (∀ x, dget kvs k = some x → ∃ u, DGet H a (.int k) (some u) ∧ Rp F u (dv x)) ∧ (dget kvs k = none → DGet H a (.int k) none) := by
  unfold dC at h
  generalize hd : (PyData.dict (kvs.map fun q => (PyData.int q.1, dv q.2))) = d at h
  cases h with
  | @dk a ws kv e r =>
    injection hd with hd
    subst hd
    refine ⟨a, rfl, fun k => ?_⟩
    obtain ⟨g1, g2⟩ := rpk_get k r
    refine ⟨fun x hx => ?_, fun hn => ?_⟩
    · obtain ⟨u, e1, e2⟩ := g1 x hx
      exact ⟨u, by rw [← e1]; exact DGet.k (k := .inl k) (le _ _ e), e2⟩
    · rw [← g2 hn]; exact DGet.k (k := .inl k) (le _ _ e)
  | @dt a ws kv e z r =>
    injection hd with hd
    subst hd
    cases kvs with
    | nil => cases r; exact absurd rfl z
    | cons q kvs =>
      generalize hd : ((q :: kvs).map fun q => ((PyData.int q.1 : PyData), dv q.2)) = ds at r
      cases r with
      | nil => exact absurd rfl z
      | cons r t =>
        rw [List.map_cons] at hd
        injection hd with h1 h2
        injection h1 with h3 h4
        cases h3
  | _ => cases hd
theorem Ok.freezeC {K : PySem.W.Frag} {B F0 F H : Hp} {p : Addr} {dv : ν → PyData} {kvs : List (Int × ν)} {L1 L2 : Ow} (k : Ok K B F0 F H (L1 ++ (p, odK false dI dv kvs) :: L2)) : ∃ F', Ok K B F0 F' H (L1 ++ L2) ∧ Same F F' ∧ Rp F' (.ref p) (dC dv kvs) := by
  obtain ⟨hp, hb, ws, h1, h2⟩ := k.own (p, odK false dI dv kvs) (by simp)
  have s : Same F (upd F p (.dK ws)) := same_new hp
  have k2 := k.drop
  have nd := k.nd
  rw [List.map_append, List.map_cons, List.nodup_append, List.nodup_cons] at nd
  have off : ∀ q ∈ L1 ++ L2, q.1 ≠ p := fun q m z => by
    rcases List.mem_append.mp m with m | m
    · exact nd.2.2 _ (List.mem_map_of_mem m) p (by simp) z
    · exact nd.2.1.1 (z ▸ List.mem_map_of_mem (f := (·.1)) m)
  refine ⟨_, ⟨k2.up.trans s, fun a u e => ?_, k2.amb, fun a u e => ?_, k2.sz, fun q m => ?_, k2.nd⟩, s, .dk upd_same (RpK.mono' s (rpk_of h2))⟩
  · by_cases z : a = p
    · rw [z, upd_same] at e; rw [z, h1]; exact e
    · rw [upd_ne z] at e; exact k2.le a u e
  · by_cases z : a = p
    · rw [z]; exact .inr (.inl hb)
    · rw [upd_ne z] at e; exact k2.new a u e
  · obtain ⟨x, y, r⟩ := k2.own q m
    exact ⟨by rw [upd_ne (off q m)]; exact x, y, r.mono s rfl⟩
end
section
variable {X : Cx} {α β γ δ S W ν : Type} {e i o : Expr} {ρ : Env} {L : Ow} {p : Addr} {pos : Pos} {dv : ν → PyData} {kvs : List (Int × ν)} {oc : δ → Oc} {n : Nat} {es : List Stmt}
theorem St.frzC {K : PySem.W.Frag} {B F0 H : Hp} {σ : L2.St} {vs : List V} {ds : List Sl} {ix : Nat} (j : Nat) (hi : ρ[ix]? = some (some (.ptr p))) (hL : L[j]? = some (p, odK false dI dv kvs)) (h : St K B F0 ρ L σ H vs ds) : St K B F0 (ρ.set ix (some (.dat (dC dv kvs)))) (L.eraseIdx j) σ H vs ds := by
  obtain ⟨F, k, a, b⟩ := h
  obtain ⟨e1, _⟩ := ow_split hL (p, odK false dI dv kvs)
  rw [e1] at k
  obtain ⟨F', k', s, r⟩ := k.freezeC
  rw [← List.eraseIdx_eq_take_drop_succ L j] at k'
  obtain ⟨v, h1, h2⟩ := pr_at a hi
  have h2 : v = .ref p := h2
  have a' := sls_mono s a
  have same : σ = σ.set ix (some v) := by
    obtain ⟨hlt, z⟩ := List.getElem?_eq_some_iff.mp h1
    rw [← z, List.set_getElem_self]
  refine ⟨F', k', ?_, svs_mono s b⟩
  rw [same]
  exact pr_set (show SlR K F' (some v) (some (.dat (dC dv kvs))) by rw [h2]; exact r) ix a'
theorem b_frzC {m : Option δ} (ix j : Nat) (hi : ρ[ix]? = some (some (.ptr p))) (hL : L[j]? = some (p, odK false dI dv kvs)) (h : BX X es (ρ.set ix (some (.dat (dC dv kvs)))) (L.eraseIdx j) m oc) : BX X es ρ L m oc := by
  obtain ⟨t, q, h⟩ := h
  exact ⟨t, q, fun b hb B F0 σ H vs ds D s g => h b hb B F0 σ H vs ds D (s.frzC j hi hL) g⟩
theorem x_cget {od : Option (List (Int × ν))} {ok : Option Int} (hr : Room n X.A) (ho : EX X (dC dv) o ρ L od) (hi : EX X dI i ρ L ok) (hs : NoSl i := by intro _ _; rfl) : EX X dv (.Subscript o i pos) ρ L (od.bind fun kvs => ok.bind fun k => dget kvs k) := by
  obtain ⟨to, po, ho⟩ := ho
  obtain ⟨ti, pi, hi⟩ := hi
  refine ⟨_, pe_dget (hu_of hr) po pi hs, fun z hz B F0 σ H vs ds Q s q => ?_⟩
  obtain ⟨kvs, hk, hz⟩ := Option.bind_eq_some_iff.mp hz
  obtain ⟨y, hy, hz⟩ := Option.bind_eq_some_iff.mp hz
  refine ho kvs hk B F0 σ H vs ds _ s fun v H1 s1 => hi y hy B F0 σ H1 _ _ _ s1 fun u H2 s2 => ?_
  have eu := s2.isInt
  obtain ⟨F, ok, sl, sv⟩ := s2
  cases sv with
  | cons r t =>
    cases t with
    | cons r2 t =>
      obtain ⟨a, rfl, g⟩ := dc_get r2 ok.le
      obtain ⟨w, g1, g2⟩ := (g y).1 z hz
      exact ⟨a, w, rfl, by rw [eu]; exact g1, q w H2 ⟨F, ok, sl, .cons g2 t⟩⟩
theorem cin_core {B F0 : Hp} {σ : L2.St} {H : Hp} {u v : V} {y : Int} {vs : List V} {ds : List Sl} (s : St X.K B F0 ρ L σ H (v :: u :: vs) (.dat (dC dv kvs) :: .dat (dI y) :: ds)) : ∃ p, v = .ref p ∧ ∃ o, DGet H p u o ∧ o.isSome = (dget kvs y).isSome := by
  obtain ⟨F, ok, sl, sv⟩ := s
  cases sv with
  | cons r t =>
    cases t with
    | cons r2 t =>
      obtain ⟨a, rfl, g⟩ := dc_get r ok.le
      have eu : u = .int y := by
        cases (show Rp F u (.int y) from r2)
        rfl
      subst eu
      refine ⟨a, rfl, ?_⟩
      cases h : dget kvs y with
      | none => exact ⟨none, (g y).2 h, rfl⟩
      | some x =>
        obtain ⟨w, g1, _⟩ := (g y).1 x h
        exact ⟨some w, g1, rfl⟩
theorem x_cin {od : Option (List (Int × ν))} {ok : Option Int} (hr : Room n X.A) (hi : EX X dI i ρ L ok) (ho : EX X (dC dv) o ρ L od) (hm : behindInMarks .In o = false := by rfl) : EX X dB (.Compare i [.In] [o] pos) ρ L (ok.bind fun k => od.map fun kvs => (dget kvs k).isSome) := by
  obtain ⟨to, po, ho⟩ := ho
  obtain ⟨ti, pi, hi⟩ := hi
  refine ⟨_, pe_cmp (pc_din (hu_of hr) pi po) hm, fun z hz B F0 σ H vs ds Q s q => ?_⟩
  obtain ⟨y, hy, hz⟩ := Option.bind_eq_some_iff.mp hz
  obtain ⟨kvs, hk, rfl⟩ := Option.map_eq_some_iff.mp hz
  refine hi y hy B F0 σ H vs ds _ s fun u H1 s1 => ho kvs hk B F0 σ H1 _ _ _ s1 fun v H2 s2 => ?_
  obtain ⟨p, e, o, g, eo⟩ := cin_core s2
  exact ⟨p, o, e, g, by rw [eo]; exact q _ _ s2.pop.pop.bl⟩
theorem x_cnotIn {od : Option (List (Int × ν))} {ok : Option Int} (hr : Room n X.A) (hi : EX X dI i ρ L ok) (ho : EX X (dC dv) o ρ L od) (hm : behindInMarks .NotIn o = false := by rfl) : EX X dB (.Compare i [.NotIn] [o] pos) ρ L (ok.bind fun k => od.map fun kvs => !(dget kvs k).isSome) := by
  obtain ⟨to, po, ho⟩ := ho
  obtain ⟨ti, pi, hi⟩ := hi
  refine ⟨_, pe_cmp (pc_dnotin (hu_of hr) pi po) hm, fun z hz B F0 σ H vs ds Q s q => ?_⟩
  obtain ⟨y, hy, hz⟩ := Option.bind_eq_some_iff.mp hz
  obtain ⟨kvs, hk, rfl⟩ := Option.map_eq_some_iff.mp hz
  refine hi y hy B F0 σ H vs ds _ s fun u H1 s1 => ho kvs hk B F0 σ H1 _ _ _ s1 fun v H2 s2 => ?_
  obtain ⟨p, e, o, g, eo⟩ := cin_core s2
  exact ⟨p, o, e, g, by rw [eo]; exact q _ _ s2.pop.pop.bl⟩
theorem t_cin {od : Option (List (Int × ν))} {ok : Option Int} (hr : Room n X.A) (hi : EX X dI i ρ L ok) (ho : EX X (dC dv) o ρ L od) (hm : behindInMarks .In o = false := by rfl) : TX X (.Compare i [.In] [o] pos) ρ L (ok.bind fun k => od.map fun kvs => (dget kvs k).isSome) := by
  obtain ⟨to, po, ho⟩ := ho
  obtain ⟨ti, pi, hi⟩ := hi
  refine ⟨_, pt_cmp (pc_din (hu_of hr) pi po) hm, fun z hz B F0 σ H vs ds Q s q => ?_⟩
  obtain ⟨y, hy, hz⟩ := Option.bind_eq_some_iff.mp hz
  obtain ⟨kvs, hk, rfl⟩ := Option.map_eq_some_iff.mp hz
  refine hi y hy B F0 σ H vs ds _ s fun u H1 s1 => ho kvs hk B F0 σ H1 _ _ _ s1 fun v H2 s2 => ?_
  obtain ⟨p, e, o, g, eo⟩ := cin_core s2
  exact ⟨p, o, e, g, _, rfl, by rw [eo]; exact q _ s2.pop.pop⟩
theorem t_cnotIn {od : Option (List (Int × ν))} {ok : Option Int} (hr : Room n X.A) (hi : EX X dI i ρ L ok) (ho : EX X (dC dv) o ρ L od) (hm : behindInMarks .NotIn o = false := by rfl) : TX X (.Compare i [.NotIn] [o] pos) ρ L (ok.bind fun k => od.map fun kvs => !(dget kvs k).isSome) := by
  obtain ⟨to, po, ho⟩ := ho
  obtain ⟨ti, pi, hi⟩ := hi
  refine ⟨_, pt_cmp (pc_dnotin (hu_of hr) pi po) hm, fun z hz B F0 σ H vs ds Q s q => ?_⟩
  obtain ⟨y, hy, hz⟩ := Option.bind_eq_some_iff.mp hz
  obtain ⟨kvs, hk, rfl⟩ := Option.map_eq_some_iff.mp hz
  refine hi y hy B F0 σ H vs ds _ s fun u H1 s1 => ho kvs hk B F0 σ H1 _ _ _ s1 fun v H2 s2 => ?_
  obtain ⟨p, e, o, g, eo⟩ := cin_core s2
  exact ⟨p, o, e, g, _, rfl, by rw [eo]; exact q _ s2.pop.pop⟩
end
end Mir
namespace Mir
open PySem L2
/-! ### orders of rows of ints, of counted rows -/
def leT (a b : List Int) : Bool := !decide (b < a)
theorem srt_ints : Srt (dT dI) leT := by
  refine ⟨cmp_ints.ali, .inr (.inr fun a => ⟨_, rfl⟩), ?_, fun a => Nat.le_trans (cmp_ints.dep a) (by decide)⟩
  funext a b
  show (!PySem.W.dataLt (dT dI b) (dT dI a)) = _
  rw [cmp_ints.lt]
  rfl
theorem eqvAll_ints : ∀ xs ys : List Int, PyData.eqvAll (xs.map dI) (ys.map dI) = decide (xs = ys)
  | [], [] => by simp [PyData.eqvAll]
  | [], y :: ys => by simp [PyData.eqvAll]
  | x :: xs, [] => by simp [PyData.eqvAll]
  | x :: xs, y :: ys => by
    show (PyData.eqv (.int x) (.int y) && PyData.eqvAll (xs.map dI) (ys.map dI)) = _
    rw [eqvAll_ints xs ys]
    simp only [PyData.eqv]
    by_cases h : x = y <;> by_cases h2 : xs = ys <;> simp [h, h2]
def ltLT (a b : Int × List Int) : Bool := decide (a.1 < b.1 ∨ (a.1 = b.1 ∧ a.2 < b.2))
theorem cmp_lt1 : Cmp (dP dI (dT dI)) ltLT := by
  refine ⟨fun a b => ?_, fun _ h => (by cases h), fun a => ?_, fun a b => ?_⟩
  · show PySem.W.alikeAll [.int a.1, dT dI a.2] [.int b.1, dT dI b.2] = true
    simp only [PySem.W.alikeAll, cmp_ints.ali a.2 b.2]
    simp [PySem.W.alike]
  · show (PyData.tuple [.int a.1, dT dI a.2]).depth ≤ 60
    have h1 : (dT dI a.2).depth ≤ 2 := by
      show (PyData.tuple (a.2.map dI)).depth ≤ 2
      rw [PyData.depth]
      have := depthAll_le (n := 1) (a.2.map dI) (fun x hx => by obtain ⟨y, _, rfl⟩ := List.mem_map.mp hx; simp [dI, PyData.depth])
      omega
    rw [PyData.depth]
    have := depthAll_le (n := 2) [PyData.int a.1, dT dI a.2] (fun x hx => by
      rcases List.mem_cons.mp hx with rfl | hx
      · simp [PyData.depth]
      · rcases List.mem_cons.mp hx with rfl | hx
        · exact h1
        · cases hx)
    omega
  · show PySem.W.dataLt (.tuple [.int a.1, dT dI a.2]) (.tuple [.int b.1, dT dI b.2]) = _
    rw [PySem.W.dataLt_pair (by simp [PySem.W.alike]) (cmp_ints.ali a.2 b.2), PySem.W.dataLt_int, cmp_ints.lt]
    have e1 : PyData.eqv (.int a.1) (.int b.1) = decide (a.1 = b.1) := by simp [PyData.eqv]; rfl
    have e2 : PyData.eqv (dT dI a.2) (dT dI b.2) = decide (a.2 = b.2) := by
      show PyData.eqvAll (a.2.map dI) (b.2.map dI) = _
      exact eqvAll_ints _ _
    rw [e1, e2]
    unfold ltLT
    by_cases h1 : a.1 = b.1
    · by_cases h2 : a.2 = b.2
      · simp [h1, h2, List.lt_irrefl]
      · simp [h1, h2]
    · simp [h1]
/-! ### len of a dict -/
def rLenK : List V → Hp → VK → Prop := fun xs H Q => ∃ (p : Addr) (kvs : List (Key × V)), xs = [.ref p] ∧ H p = some (.dK kvs) ∧ Q (.int ((kvs.length : Nat) : Int)) H
open PySem.Spec PyProof.Rows in
theorem call_len_dK {X : Cx} : CallR X (.builtin "len") rLenK := by
  intro pins s σ H xs us Q I r h
  obtain ⟨p, kvs, rfl, hp, q⟩ := h
  obtain ⟨u, rfl, rx⟩ := vals1 r
  obtain rfl : u = .ref p := rx
  exact d_len I (.inl hp) fun t s' I' => ⟨.int ((kvs.length : Nat) : Int), H, I', ⟨_, rfl⟩, q⟩
section
variable {X : Cx} {ν κ : Type} {o e : Expr} {ρ : Env} {L : Ow} {p pos : Pos} {dv : ν → PyData} {dk : κ → PyData}
theorem x_lenDT {a : Addr} {kvs : List (κ × ν)} (j : Nat) (hL : L[j]? = some (a, odK true dk dv kvs)) (ho : ES X o ρ L (some (.ptr a))) (hm : X.mg "len" = none) (hs : starEach [o] X.env = (false, eval o X.env) :: starEach [] X.env := by rfl)
    (hh : X.mg "len" = none → ∀ {ta}, PE X o ta → PE X (.Call (.Name "len" p) [o] [] pos) (tCB rLenT (tCons ta tNil)) := by intro hm _ h; exact pe_callB call_len_dT (by rfl) hm PySem.boot_len (pa_cons h pa_nil)) :
    EX X dI (.Call (.Name "len" p) [o] [] pos) ρ L (some (kvs.length : Int)) := by
  obtain ⟨t, p, h⟩ := ho
  refine ⟨_, hh hm p, fun z hz B F0 σ H vs ds Q s k => ?_⟩
  cases hz
  refine h _ rfl B F0 σ H vs ds _ s fun v H1 s1 => ?_
  have e := s1.isPtr
  subst e
  obtain ⟨F, ok, sl, sv⟩ := id s1.pop
  obtain ⟨ws, h1, h2⟩ := ok.at_ hL
  refine ⟨a, ws, rfl, h1, ?_⟩
  have hl : ws.length = kvs.length := by rw [Paired.length h2, List.length_map]
  rw [hl]
  exact k _ _ s1.pop.int
theorem x_lenDK {a : Addr} {kvs : List (κ × ν)} (j : Nat) (hL : L[j]? = some (a, odK false dk dv kvs)) (ho : ES X o ρ L (some (.ptr a))) (hm : X.mg "len" = none) (hs : starEach [o] X.env = (false, eval o X.env) :: starEach [] X.env := by rfl)
    (hh : X.mg "len" = none → ∀ {ta}, PE X o ta → PE X (.Call (.Name "len" p) [o] [] pos) (tCB rLenK (tCons ta tNil)) := by intro hm _ h; exact pe_callB call_len_dK (by rfl) hm PySem.boot_len (pa_cons h pa_nil)) :
    EX X dI (.Call (.Name "len" p) [o] [] pos) ρ L (some (kvs.length : Int)) := by
  obtain ⟨t, p, h⟩ := ho
  refine ⟨_, hh hm p, fun z hz B F0 σ H vs ds Q s k => ?_⟩
  cases hz
  refine h _ rfl B F0 σ H vs ds _ s fun v H1 s1 => ?_
  have e := s1.isPtr
  subst e
  obtain ⟨F, ok, sl, sv⟩ := id s1.pop
  obtain ⟨ws, h1, h2⟩ := ok.at_ hL
  refine ⟨a, ws, rfl, h1, ?_⟩
  have hl : ws.length = kvs.length := by rw [Paired.length h2, List.length_map]
  rw [hl]
  exact k _ _ s1.pop.int
/-- xs[:n] of what turns the world -/
theorem m_sliceTo {α W : Type} {hi : Expr} {p2 : Pos} {d : α → PyData} {Lf : W → Ow} {w : W} {m : Option (List α × W)} {mh : List α → W → Option (Int × W)} (h : EM X (dL d) e ρ Lf w m) (hh : ∀ x w1, EM X dI hi ρ Lf w1 (mh x w1)) :
    EM X (dL d) (.Subscript e (.Slice none (some hi) none p2) pos) ρ Lf w (m.bind fun x => (mh x.1 x.2).map fun u => (cutI x.1 none (some u.1), u.2)) := by
  obtain ⟨t, p, h⟩ := h
  obtain ⟨tb, pb, hb⟩ := EM.all (S := List α × W) (ρf := fun _ => ρ) (wf := fun q => q.2) (k := fun q => mh q.1 q.2) fun q => hh q.1 q.2
  refine ⟨_, pe_slice sl_list p po_none (po_some pb), fun z w3 hz B F0 σ H vs ds Q s k => ?_⟩
  obtain ⟨⟨x, w1⟩, hx, hz⟩ := Option.bind_eq_some_iff.mp hz
  obtain ⟨⟨u, w2⟩, hu, e⟩ := Option.map_eq_some_iff.mp hz
  injection e with e1 e2
  subst e1 e2
  refine h x w1 hx B F0 σ H vs ds _ s fun v H1 s1 => hb (x, w1) u w2 hu B F0 σ H1 _ _ _ s1 fun v2 H2 s2 => ?_
  refine ⟨u, s2.isInt, ?_⟩
  obtain ⟨a, us, rfl, h1, h2, h4, s4⟩ := s2.pop.lstOf (.lst _)
  rw [List.length_map] at h2
  refine ⟨a, us, rfl, SqL.of h1, fun p hp => ?_⟩
  have e3 : (cutV us none (some u)).length = (((cutI x none (some u)).map d).map Sl.dat).length := by
    rw [List.length_map, List.length_map]; unfold cutV cutI; rw [List.length_take, List.length_drop, List.length_take, List.length_drop, h2]
  have s5 := St.newLst (B := B) (F0 := F0) (ρ := ρ) (L := Lf w2) (σ := σ) (vs := vs) (ds := ds) (us := cutV us none (some u)) (xs := ((cutI x none (some u)).map d).map Sl.dat) (s4.stack fun F r => by
    obtain ⟨r1, r2⟩ := pr_split (by rw [List.length_map, List.length_map]; exact h2) r
    rw [map_cut, map_cut]
    exact pr_app (pr_cut r1 none (some u)) (by cases r2 with | cons _ t => exact t)) e3 hp (Nat.le_trans (cutV_length us none (some u)) h4)
  have s6 := St.frz (L2 := []) s5
  rw [List.append_nil] at s6
  exact k _ _ s6
end
end Mir
namespace Mir
open PySem L2 PySem.Spec PyProof.Rows
/-! ### sorted(set(xs)) of up to 64 tuples of ints that all differ -/
abbrev TRow : Type := Addr × List Int
structure BigT (P : Program) (w : World) (h : Heap) (a : Addr) (L : List TRow) (es : Array (Int × Value)) (ep : Nat) (t : SetTable) : Prop where
  sits : ∃ o, h.get? a = some o ∧ o.ExactSet ∧ o.data = .set es ep t
  rws : es.toList = rowsOf P w L
  tb : TabOk t (L.map fun p => thash P w p.2)
  dif : (L.map (·.2)).Nodup
  its : ∀ p ∈ L, IsT P w h p.2 p.1
  pl : t.plain = true
  ld : w.params.followText "set-order" = true ∨ t.led = true
  rm : L.length * 5 < t.mask * 3
  fw : L.length ≤ 64
section
variable {P : Program} {w : World} {A : Around} {E : Value → Shared → Prop} {s : Shared} {a : Addr} {L : List TRow} {es : Array (Int × Value)} {ep : Nat} {t : SetTable}
theorem BigT.small {h : Heap} (B : BigT P w h a L es ep t) (hl : L.length < 64) : SetTR P w h a L es ep t :=
  ⟨B.sits, B.rws, B.tb, B.dif, B.its, B.pl, B.ld, B.rm, hl⟩
theorem BigT.of {h : Heap} (R : SetTR P w h a L es ep t) : BigT P w h a L es ep t :=
  ⟨R.ob, R.rows, R.tab, R.nd, R.tup, R.plain, R.led, R.room, Nat.le_of_lt R.few⟩
theorem BigT.stay {h h' : Heap} (B : BigT P w h a L es ep t) (ha : ∀ o, h.get? a = some o → h'.get? a = some o) (ht : ∀ p ∈ L, IsT P w h' p.2 p.1) : BigT P w h' a L es ep t := by
  obtain ⟨o, ho, r⟩ := B.sits
  exact ⟨⟨o, ha o ho, r⟩, B.rws, B.tb, B.dif, ht, B.pl, B.ld, B.rm, B.fw⟩
/-- the 64th comes in without a new table -/
theorem add_big (B : BigT P w s.heap a L es ep t) {x : Addr} {k : List Int} (hx : IsT P w s.heap k x) (hu : A.units < cLine) (hl : L.length < 64) (hk : k ∉ L.map (·.2)) {Q : Bool → Shared → Prop}
    (hQ : ∀ b h' L2 e2 p2 t2, Heap.SameBut a s.heap h' → BigT P w h' a L2 e2 p2 t2 → L2.Perm ((x, k) :: L) → Q b { s with heap := h' }) :
    wpAny (model P w) A (setAddHashed a (.ref x) (thash P w k)) Q E s := by
  have R := B.small hl
  by_cases hfew : L.length + 1 < 64
  · exact add_at R hx hu hfew fun b h' L2 e2 p2 t2 sb R2 _ c2 => hQ b h' L2 e2 p2 t2 sb (BigT.of R2) (c2 hk)
  have h63 : L.length = 63 := by omega
  have h127 : t.mask = 127 := by
    have := B.rm
    rcases B.tb.mok with e | e | e <;> omega
  obtain ⟨o, ho, hex, hd⟩ := B.sits
  have hsl := R.size
  unfold setAddHashed
  refine wpAny_holding ?_
  rw [show (100000 : Nat) = 99999 + 1 from rfl, setAddHashedIn_succ]
  refine wpAny_bind (wpAny_setState_of ho hd R.fits ?_)
  dsimp only
  refine wp_if_neg (by simp [byScan, Value.scannable]) ?_
  try refine wpAny_bind (wpAny_pure ?_)
  refine wpAny_bind (search_at R hx hu (fun hm => absurd hm hk) fun K hm hK hb => ?_)
  dsimp only
  refine wpAny_bind (wpAny_setState_of ho hd R.fits ?_)
  dsimp only
  obtain ⟨q1, q2, q3, q4, q5, q6, q7, q8, q9⟩ := B.tb.put hK hb
  have hplain : (t.put (way t.mask (thash P w k) K)).1.plain = true := q6.trans B.pl
  generalize hpt : t.put (way t.mask (thash P w k) K) = pt at q1 q3 q4 q5 q6 q7 q8 q9 hplain ⊢
  obtain ⟨t1, pz⟩ := pt
  dsimp only at q1 q3 q4 q5 q6 q7 q8 q9 hplain ⊢
  subst q1
  first
    | (refine wpAny_bind ?_; refine wp_if_pos hplain ?_; refine hashBy_tup hx ?_)
    | refine wp_if_pos hplain (wpAny_bind (hashBy_tup hx ?_))
  simp only [if_true]
  have hrow : (SetTable.insertAt es (SetTable.below t.place (way t.mask (thash P w k) K)) (thash P w k, Value.ref x)).toList
      = rowsOf P w (L.take (SetTable.below t.place (way t.mask (thash P w k) K)) ++ (x, k) :: L.drop (SetTable.below t.place (way t.mask (thash P w k) K))) := by
    rw [SetTable.toList_insertAt, rows_put, B.rws]
  generalize hpp : SetTable.below t.place (way t.mask (thash P w k) K) = z at q2 q3 hrow ⊢
  have pm := put_perm L z (x, k)
  have hn1 := pm.length_eq
  rw [List.length_cons] at hn1
  have hmp : (L.take z ++ (x, k) :: L.drop z).map (fun p => thash P w p.2)
      = (L.map fun p => thash P w p.2).take z ++ thash P w k :: (L.map fun p => thash P w p.2).drop z := by
    rw [List.map_append, List.map_cons, List.map_take, List.map_drop]
  rw [← hmp] at q3
  have dif1 : ((L.take z ++ (x, k) :: L.drop z).map (·.2)).Nodup := by
    rw [(pm.map (·.2)).nodup_iff, List.map_cons]
    exact List.nodup_cons.mpr ⟨hk, B.dif⟩
  have hsize : (SetTable.insertAt es z (thash P w k, Value.ref x)).size = L.length + 1 := by
    have q := congrArg List.length hrow
    unfold rowsOf at q
    rwa [Array.length_toList, List.length_map, hn1] at q
  generalize SetTable.insertAt es z (thash P w k, Value.ref x) = e1 at hrow hsize ⊢
  generalize L.take z ++ (x, k) :: L.drop z = L1 at pm hn1 q3 dif1 hrow
  refine wpAny_bind (wpAny_storeSet_of ho hd ?_ (by rw [hsize, sizeLine_eq]; omega))
  have sb : Heap.SameBut a s.heap (s.heap.update a (Obj.putSet e1 t1)) := Heap.SameBut.update ..
  have ho1 := store_at (es' := e1) (t' := t1) ho hd
  generalize s.heap.update a (Obj.putSet e1 t1) = h1 at sb ho1 ⊢
  have its1 : ∀ q ∈ L1, IsT P w h1 q.2 q.1 := fun q hq => by
    rcases List.mem_cons.mp (pm.mem_iff.mp hq) with e | hq
    · rw [e]
      exact isT_same hx ho hd sb
    · exact isT_same (B.its q hq) ho hd sb
  have hnf : ¬ t1.tooFull = true := by
    unfold SetTable.tooFull
    rw [decide_eq_true_eq, q9, List.length_map, q4]
    omega
  first
    | refine wp_if_neg (by simp [hnf]) ?_
    | (refine wpAny_bind ?_; refine wp_if_neg (by simp [hnf]) ?_; refine wpAny_pure ?_)
  exact wpAny_pure (hQ true h1 L1 e1 (ep + 1) t1 sb ⟨⟨_, ho1, ⟨hex.1, hex.2.1, hex.2.2⟩, rfl⟩, hrow, q3, dif1, its1, hplain, q5 ▸ B.ld, by rw [hn1, q4]; omega, by omega⟩ pm)
theorem take_up {ks : List TRow} {i : Nat} {p : TRow} (h : ks[i]? = some p) : ks.take (i + 1) = ks.take i ++ [p] := by
  rw [List.take_succ, h]
  rfl
theorem fresh_key {ks L : List TRow} (nd : (ks.map (·.2)).Nodup) {i : Nat} {p : TRow} (h : ks[i]? = some p) (pm : L.Perm (ks.take i)) : p.2 ∉ L.map (·.2) := by
  rw [(pm.map (·.2)).mem_iff]
  intro hm
  have e := List.take_append_drop (i + 1) ks
  rw [take_up h] at e
  rw [← e, List.map_append, List.map_append, List.nodup_append, List.nodup_append] at nd
  exact nd.1.2.2 _ hm p.2 (by simp) rfl
/-- the loop of update -/
theorem upd_big {I : Addr} {fp wr : List Addr} {G : Array GenState → Array GenState → Prop} {n : Nat} {Pv : Nat → Value → Prop} {St : Nat → Shared → Prop} {R : Result → Shared → Prop}
    (W : WalksS P w A.in1 I fp wr G n Pv St) (S : Addr) (hSf : S ∉ fp) (ks : List TRow) (hn : n = ks.length) (h64 : ks.length ≤ 64) (nd : (ks.map (·.2)).Nodup) (hv : ∀ i v, Pv i v → ∃ p, ks[i]? = some p ∧ v = .ref p.1)
    (g0 : Heap) (hk : ∀ p ∈ ks, IsT P w g0 p.2 p.1) (hS0 : g0.get? S = none) (hw0 : ∀ b ∈ wr, g0.get? b = none) (hu : A.in1.units < cLine) :
    ∀ (j i : Nat) (s : Shared), n - i = j → i ≤ n → St i s → (∀ b o, g0.get? b = some o → s.heap.get? b = some o) → (∃ L es ep t, BigT P w s.heap S L es ep t ∧ L.Perm (ks.take i)) →
      (∀ s' L es ep t, Moved (S :: wr) G s s' → BigT P w s'.heap S L es ep t → L.Perm ks → (∀ b o, g0.get? b = some o → s'.heap.get? b = some o) → R (.ok (.ret .none)) s') →
      codeAny (model P w) A (.builtin "set.update.loop" ⟨[.ref S, .ref I], []⟩) R s := by
  have hSw : S ∉ wr := fun h => hSf (W.sub _ h)
  have hinc : ∀ b ∈ wr, b ∈ S :: wr := fun b hb => List.mem_cons_of_mem _ hb
  have goes : ∀ {s s' : Shared}, Moved wr G s s' → (∀ b o, g0.get? b = some o → s.heap.get? b = some o) → ∀ b o, g0.get? b = some o → s'.heap.get? b = some o := fun hm hkp b o e =>
    hm.heap b o (fun hb => absurd e (by rw [hw0 b hb]; simp)) (hkp b o e)
  intro j
  induction j with
  | zero =>
    intro i s hj hi hst hkp ⟨L, es, ep, t, B, pm⟩ hR
    obtain rfl : i = n := by omega
    rw [hn, List.take_length] at pm
    refine codeAny_builtin F.entry_set_update_loop ?_
    rw [Around.under_plainId F.plain_set_update_loop _]
    refine wpAny_bind (m := pyNext (.ref I)) (W.done s _ _ hst fun s' hm => ?_)
    have hkp' := goes hm hkp
    refine wpAny_pure (hR s' L es ep t (hm.mono hinc) (B.stay (fun o e => hm.heap S o hSw e) fun p hp => isT_keep (hk p (pm.mem_iff.mp hp)) hkp') pm hkp')
  | succ j ih =>
    intro i s hj hi hst hkp ⟨L, es, ep, t, B, pm⟩ hR
    have hlt : i < n := by omega
    refine codeAny_builtin F.entry_set_update_loop ?_
    rw [Around.under_plainId F.plain_set_update_loop _]
    refine wpAny_bind (m := pyNext (.ref I)) (W.item i s _ _ hlt hst fun v s' hP hst' hm => ?_)
    obtain ⟨p, hp, rfl⟩ := hv i v hP
    have hkp' := goes hm hkp
    have B' : BigT P w s'.heap S L es ep t := B.stay (fun o e => hm.heap S o hSw e) fun q hq => isT_keep (hk q (List.mem_of_mem_take (pm.mem_iff.mp hq))) hkp'
    have hx : IsT P w s'.heap p.2 p.1 := isT_keep (hk p (List.mem_of_getElem? hp)) hkp'
    have hl := pm.length_eq
    rw [List.length_take] at hl
    refine wpAny_bind (m := holding [Value.ref p.1] (setAdd S (.ref p.1))) (wpAny_holding ?_)
    unfold setAdd
    refine wpAny_holding (wpAny_bind (wpAny_pyHash_tuple hu hx ?_))
    refine add_big (s := { s' with toks := s'.toks + (p.2.length + 1) }) B' hx hu (by omega) (fresh_key nd hp pm) fun b h' L2 e2 p2 t2 sb B2 pm2 => ?_
    have pm3 : L2.Perm (ks.take (i + 1)) := by
      rw [take_up hp]
      exact pm2.trans ((pm.cons p).trans (List.perm_append_comm (l₁ := [p]) (l₂ := ks.take i)))
    have hkp2 : ∀ b o, g0.get? b = some o → h'.get? b = some o := fun b o e => (sb.2 b (fun z => absurd e (by rw [z, hS0]; simp))).trans (hkp' b o e)
    refine wpAny_pure ⟨plainId_quiet F.plain_set_update_loop _, ih (i + 1) _ (by omega) hlt (W.frame _ s' _ _ hst' (Nat.le_add_right _ _) fun b hb o e => ?_) hkp2 ⟨L2, e2, p2, t2, B2, pm3⟩ fun s2 L3 e3 p3 t3 hm3 B3 pm4 hkp3 => ?_⟩
    · exact (sb.2 b fun q : b = S => hSf (q ▸ hb)).trans e
    · refine hR s2 L3 e3 p3 t3 (Moved.trans W.gtrans ((hm.mono hinc).then_heap (Nat.le_add_right _ _) fun b o hb e => ?_) hm3) B3 pm4 hkp3
      exact (sb.2 b fun q : b = S => hb (q ▸ List.mem_cons_self)).trans e
abbrev bare (w : World) : Obj := { cls := .type "set", dict := none, data := .set #[] 0 (.fresh 0 0 (!w.params.followText "set-order")) }
theorem big_fresh {h : Heap} (ho : h.get? a = some (bare w)) : BigT P w h a [] #[] 0 (.fresh 0 0 (!w.params.followText "set-order")) := BigT.of (setTR_fresh ho)
set_option maxRecDepth 100000 in
set_option maxHeartbeats 3200000 in
/-- set(xs) -/
theorem call_set_big {l : Addr} {items : Array Value} (ks : List TRow) {Q : Value → Shared → Prop} (hh : A.handled = none) (hl : s.heap.IsList l items) (hit : items.toList = ks.map fun p => Value.ref p.1)
    (hk : ∀ p ∈ ks, IsT P w s.heap p.2 p.1) (h64 : ks.length ≤ 64) (nd : (ks.map (·.2)).Nodup) (hu : A.units + 3 < cLine)
    (h : ∀ (h' : Heap) (tk : Nat) L es ep t, BigT P w h' s.heap.objs.size L es ep t → L.Perm ks → (∀ b o, s.heap.get? b = some o → h'.get? b = some o) → Q (.ref s.heap.objs.size) { s with heap := h', toks := tk }) :
    wpAny (model P w) A (call (.type "set") [.ref l]) Q E s := by
  have hmany : items.size = ks.length := by rw [← Array.length_toList, hit, List.length_map]
  obtain ⟨cc, tl, hmro⟩ := F.called_set.mro
  have hmade := F.called_set.made
  have hsub := F.called_set.sub
  refine wpAny_call (codeAny_of_tree ?_)
  show wpAny _ _ (callAny (.type "set") _) _ _ _
  refine wpAny_pure ⟨Code.quiet_builtin _ (by decide +kernel), codeAny_builtin F.entry_type_call ?_⟩
  rw [Around.under_plain (weight_type_call_type "set" [.ref l] []) rfl]
  have h1 := F.called_set.notType
  have h2 := F.called_set.canCreate
  have hct := F.typeCall_set_1 (.ref l)
  repeat (any_goals (first | assumption | wp_step))
  refine codeAny_mono (code_set_led1 (.ref l) (E := E) (Q₁ := fun obj s₁ => obj = .ref s.heap.objs.size ∧ s₁ = { s with heap := s.heap.push (bare w) }) ⟨rfl, rfl⟩) fun r s₁ hr => ?_
  cases r with
  | error e => exact hr
  | ok fl =>
    cases fl with
    | ret obj =>
      obtain ⟨rfl, rfl⟩ := hr
      have hS : (s.heap.push (bare w)).get? s.heap.objs.size = some (bare w) := Heap.get?_push_size _ rfl
      have hT : Shared.TypeIs { s with heap := s.heap.push (bare w) } (.ref s.heap.objs.size) "set" := ⟨_, hS, rfl⟩
      have hli := F.called_set.init.lookup
      have hbi := F.called_set.init.bind (.ref s.heap.objs.size)
      repeat (any_goals (first | assumption | wp_step))
      refine codeAny_mono (codeAny_call_builtin (R := wants (fun r s₂ => r = .none ∧ ∃ h' tk L es ep t, s₂ = { s with heap := h', toks := tk } ∧ BigT P w h' s.heap.objs.size L es ep t ∧ L.Perm ks ∧
          (∀ b o, s.heap.get? b = some o → h'.get? b = some o)) E) F.called_set.init.plain F.entry_set_init (check_set_init_1 hT ?_)) fun r₂ s₂ hr₂ => ?_
      · obtain ⟨ol, hol, hcl, nl, hdl⟩ := hl
        obtain ⟨ocls, odict, odata, oslots⟩ := ol
        simp only at hcl hdl
        subst hcl
        subst hdl
        have hol' : (s.heap.push (bare w)).get? l = some { cls := .type "list", dict := odict, data := .seq items nl, slots := oslots } := Heap.get?_push_of_some _ hol
        have hsls := F.sub_list_set
        have hslf := F.sub_list_frozenset
        have hne : (Value.type "list" == Value.type "dict") = false := by decide
        have hl1 : (s.heap.push (bare w)).IsList l items := ⟨_, hol', rfl, nl, rfl⟩
        unfold Builtin.«set.__init__» noKeywords Builtin.Frozenset.updateFrom
        generalize hPI : pyIter = PI
        wp_walk
        subst hPI
        refine wpAny_pyIter_list hl1 ?_
        refine wpAny_bind (wpAny_runValue ?_)
        have hlS : l < s.heap.objs.size := Heap.lt_size hol
        have hh3 : A.in1.in1.in1.handled = none := by simp [hh]
        have hsz : (s.heap.push (bare w)).objs.size = s.heap.objs.size + 1 := Heap.size_push ..
        have hneI : l ≠ (s.heap.push (bare w)).objs.size := fun q => by
          rw [hsz] at q
          exact absurd (Nat.lt_succ_of_lt hlS) (q ▸ Nat.lt_irrefl l)
        have hSf : s.heap.objs.size ∉ [(s.heap.push (bare w)).objs.size, l] := by
          rw [hsz]
          intro q
          rcases List.mem_cons.mp q with q | q
          · exact Nat.succ_ne_self _ q.symm
          · exact Nat.lt_irrefl _ ((List.mem_singleton.mp q) ▸ hlS)
        have hval : ∀ (i : Nat) (v : Value), items[i]? = some v → ∃ p, ks[i]? = some p ∧ v = .ref p.1 := fun i v hv => by
          rw [← Array.getElem?_toList, hit, List.getElem?_map] at hv
          obtain ⟨p, hp, e⟩ := Option.map_eq_some_iff.mp hv
          exact ⟨p, hp, e.symm⟩
        have free : ∀ b, s.heap.objs.size ≤ b → s.heap.get? b = none := fun b hb => by
          cases q : s.heap.get? b with
          | none => rfl
          | some o => exact absurd (Nat.lt_of_lt_of_le (Heap.lt_size q) hb) (Nat.lt_irrefl b)
        refine upd_big ((Walks.list hh3 _ l hneI items).toS) s.heap.objs.size hSf ks hmany h64 nd hval s.heap hk (free _ (Nat.le_refl _)) (fun b hb => free b (by
          rw [List.mem_singleton.mp hb, hsz]
          exact Nat.le_succ _)) hu (items.size - 0) 0 _ (by omega) (Nat.zero_le _) ⟨⟨_, Heap.get?_push_size _ rfl, rfl, rfl⟩, (hl1.push _)⟩ (fun b o e => Heap.get?_push_of_some _ (Heap.get?_push_of_some _ e)) ?hS0 ?hR
        case hS0 =>
          exact ⟨[], #[], 0, _, big_fresh (Heap.get?_push_of_some _ hS), List.Perm.refl _⟩
        case hR =>
          intro s' L es ep t hm hS' pm hkp
          obtain ⟨h', g2, d', tk', os'⟩ := s'
          have eg : g2 = s.gens := hm.gens
          have ed : d' = s.drawn := hm.drawn
          have eo : os' = s.os := hm.os
          subst eg ed eo
          show wpAny _ _ _ _ _ _
          refine wpAny_pure ?_
          show wpAny _ _ (ret Value.none) _ _ _
          exact wpAny_pure ⟨rfl, h', tk', L, es, ep, t, rfl, hS', pm, hkp⟩
      · cases r₂ with
        | error e => exact hr₂
        | ok fl₂ =>
          cases fl₂ with
          | ret r =>
            obtain ⟨rfl, h', tk, L, es, ep, t, rfl, hS', pm, hk'⟩ := hr₂
            repeat (any_goals (first | assumption | wp_step))
            exact h _ _ _ _ _ _ hS' pm hk'
          | _ => exact hr₂.elim
    | _ => exact hr.elim
end
end Mir
namespace Mir
open PySem L2 PySem.Spec PyProof.Rows PySem.W
theorem perm_map_inv {α β : Type} {f : α → β} {us vs : List β} (h : us.Perm vs) : ∀ L : List α, vs = L.map f → ∃ L1 : List α, L1.Perm L ∧ us = L1.map f := by
  induction h with
  | nil => exact fun L e => ⟨[], by rw [List.map_eq_nil_iff.mp e.symm], rfl⟩
  | @cons x us vs _ ih =>
    intro L e
    cases L with
    | nil => cases e
    | cons y L =>
      rw [List.map_cons] at e
      injection e with e1 e2
      obtain ⟨L1, p, q⟩ := ih L e2
      exact ⟨y :: L1, p.cons y, by rw [List.map_cons, e1, q]⟩
  | swap x y us =>
    intro L e
    match L, e with
    | a :: b :: L, e =>
      rw [List.map_cons, List.map_cons] at e
      injection e with e1 e2
      injection e2 with e2 e3
      exact ⟨b :: a :: L, List.Perm.swap a b L, by rw [List.map_cons, List.map_cons, e1, e2, e3]⟩
  | trans _ _ ih1 ih2 =>
    intro L e
    obtain ⟨L1, p1, q1⟩ := ih2 L e
    obtain ⟨L2, p2, q2⟩ := ih1 L1 q1
    exact ⟨L2, p2.trans p1, q2⟩
theorem leTt : ∀ a b c : List Int, leT a b = true → leT b c = true → leT a c = true := fun a b c h h' => by
  unfold leT at *
  simp only [Bool.not_eq_true', decide_eq_false_iff_not] at *
  exact List.not_lt.mpr (List.le_trans (List.not_lt.mp h) (List.not_lt.mp h'))
theorem leTo : ∀ a b : List Int, (leT a b || leT b a) = true := fun a b => by
  unfold leT
  rcases List.le_total a b with h | h
  · simp [List.not_lt.mpr h]
  · simp [List.not_lt.mpr h]
theorem sortT_perm {A B : List (List Int)} (h : A.Perm B) : A.mergeSort leT = B.mergeSort leT := by
  refine List.Perm.eq_of_pairwise (le := fun a b => leT a b = true) (fun a b _ _ h1 h2 => ?_) (List.pairwise_mergeSort leTt leTo A) (List.pairwise_mergeSort leTt leTo B) ((List.mergeSort_perm A leT).trans (h.trans (List.mergeSort_perm B leT).symm))
  unfold leT at h1 h2
  simp only [Bool.not_eq_true', decide_eq_false_iff_not] at h1 h2
  exact List.le_antisymm (List.not_lt.mp h1) (List.not_lt.mp h2)
theorem reads_ints {h : Heap} : ∀ {vs : List Value} {ns : List Int}, IntsAre vs ns → ReadsAll h vs (ns.map dI) []
  | _, _, .nil => .nil
  | _, _, .cons i t r => .cons (bs := []) (.int i t) (reads_ints r)
theorem reads_isT {P : Program} {w : World} {h : Heap} {k : List Int} {b : Addr} (x : IsT P w h k b) : Reads h (.ref b) (dT dI k) [] := by
  obtain ⟨o, items, n, ho, hc, hd, hi⟩ := x
  exact .tuple ho hc hd (reads_ints (ints_of_items hi))
theorem each_of_refs {R : Value → TRow → Prop} : ∀ {L : List TRow}, (∀ p ∈ L, R (.ref p.1) p) → EachIs R (L.map fun p => Value.ref p.1) L
  | [], _ => .nil
  | p :: L, h => .cons (h p List.mem_cons_self) (each_of_refs fun q hq => h q (List.mem_cons_of_mem _ hq))
theorem refs_of_each : ∀ {L : List TRow} {out : List Value}, EachIs (fun u (p : TRow) => u = .ref p.1) out L → out = L.map fun p => Value.ref p.1
  | _, _, .nil => rfl
  | _, _, .cons e t => by rw [List.map_cons, e, refs_of_each t]
section
variable {P : Program} {w : World} {A : Around} {E : Value → Shared → Prop} {s : Shared} {a : Addr} {L : List TRow} {es : Array (Int × Value)} {ep : Nat} {t : SetTable}
theorem sorted_big (B : BigT P w s.heap a L es ep t) (hh : A.handled = none) (hu : A.units + 70 < cLine) {Q : Value → Shared → Prop}
    (hQ : ∀ s' p (out : Array Value) (c : Nat) (L2 : List TRow), (∀ b o, s.heap.get? b = some o → s'.heap.get? b = some o) → s'.gens = s.gens → s'.os = s.os → s.heap.objs.size ≤ p →
      s'.heap.get? p = some (seqObj "list" out c) → out.toList = L2.map (fun q => Value.ref q.1) → L2.Perm L → L2.map (·.2) = (L.map (·.2)).mergeSort leT → Q (.ref p) s') :
    wpAny (model P w) A (call (.builtin "sorted") [.ref a]) Q E s := by
  obtain ⟨o, ho, hex, hd⟩ := B.sits
  have hsz : es.size = L.length := by
    have q := congrArg List.length B.rws
    unfold L2.rowsOf at q
    rwa [Array.length_toList, List.length_map] at q
  have hfits : t.fits es.size = true := by
    have h1 := B.tb.sz
    rw [List.length_map] at h1
    have h3 := B.rm
    unfold SetTable.fits SetTable.fill
    rw [B.tb.dm, Bool.and_eq_true, beq_iff_eq, decide_eq_true_eq]
    exact ⟨by omega, by show t.place.size + 0 ≤ t.mask; omega⟩
  have h64 := B.fw
  refine Calls.call_function_entry kind_sorted plain_sorted entry_sorted (args_sorted1 _) ?_
  unfold Builtin.«sorted»
  refine wpAny_bind (m := checkCount "sorted" 1 1 _) (wpAny_pure ?_)
  refine wpAny_bind (collect_set (A := A.in1) hh ⟨o, ho, hex.1, hd⟩ hfits (by unfold scanBound; omega) B.tb.ris B.ld fun s1 vs k1 hz g1 o1 pm => ?_)
  have hes : es.toList.map (·.2) = L.map fun q => Value.ref q.1 := by
    rw [B.rws]
    unfold L2.rowsOf
    rw [List.map_map]
    rfl
  rw [hes] at pm
  obtain ⟨L1, p1, rfl⟩ := perm_map_inv pm L rfl
  have hl1 := p1.length_eq
  refine wpAny_bind (wpAny_newList ?_ (by rw [List.length_map, sizeLine_eq]; omega))
  have hoL : (s1.heap.push (seqObj "list" (L1.map fun q => Value.ref q.1).toArray 0)).get? s1.heap.objs.size = some (seqObj "list" (L1.map fun q => Value.ref q.1).toArray 0) := Heap.get?_push_size _ rfl
  generalize hhp : s1.heap.push (seqObj "list" (L1.map fun q => Value.ref q.1).toArray 0) = h2 at hoL
  have up2 : ∀ b u, s.heap.get? b = some u → h2.get? b = some u := fun b u e => by rw [← hhp]; exact Heap.get?_push_of_some _ (k1 b u e)
  have far : ∀ b u, s.heap.get? b = some u → b ≠ s1.heap.objs.size := fun b u e => Nat.ne_of_lt (Heap.lt_size (k1 b u e))
  have hrd : ∀ p ∈ L1, ∃ as, Reads (sortingHeap h2 s1.heap.objs.size (L1.map fun q => Value.ref q.1)) (.ref p.1) (dT dI p.2) as := fun p hp => by
    have x := B.its p (p1.mem_iff.mp hp)
    obtain ⟨ob, items, n, e1, e2⟩ := x
    exact ⟨[], reads_isT (P := P) (w := w) ⟨ob, items, n, sortingHeap_old (far _ _ e1) (up2 _ _ e1), e2⟩⟩
  have er := each_of_refs (R := fun v (p : TRow) => ∃ as, Reads (sortingHeap h2 s1.heap.objs.size (L1.map fun q => Value.ref q.1)) v (dT dI p.2) as) hrd
  have hal : AllAlike (L1.map fun p : TRow => dT dI p.2) := fun x hx y hy => by
    obtain ⟨p, _, rfl⟩ := List.mem_map.mp hx
    obtain ⟨q, _, rfl⟩ := List.mem_map.mp hy
    exact cmp_ints.ali p.2 q.2
  have hS := sortsAt_tups (prog := P) (w := w) (A := A.in1.in1) (s := { s1 with heap := sortingHeap h2 s1.heap.objs.size (L1.map fun q => Value.ref q.1) }) (each_map (R := fun v d => ∃ as, Reads (sortingHeap h2 s1.heap.objs.size (L1.map fun q => Value.ref q.1)) v d as) (fun p : TRow => dT dI p.2) er) hal (fun d hd => by
    obtain ⟨p, _, rfl⟩ := List.mem_map.mp hd
    exact ⟨_, rfl⟩) (fun d hd => by
    obtain ⟨p, _, rfl⟩ := List.mem_map.mp hd
    have := cmp_ints.dep p.2
    show A.units + 2 + _ < _
    omega)
  have hout := refs_of_each (sortVals_data false (each_of_refs (R := fun u (p : TRow) => u = .ref p.1) (L := L1) fun _ _ => rfl) er hal)
  refine wpAny_bind (wpAny_holding (wpAny_call_entry slot_list_sort ⟨_, hoL, rfl⟩ entry_list_sort (list_sort_vals (s := { s1 with heap := h2 }) hoL hS (by rw [List.length_map, sizeLine_eq]; omega) ⟨_, rfl, ?_⟩) (args_list_sort _)))
  generalize sortVals (dataKind (sortingHeap h2 s1.heap.objs.size (L1.map fun q => Value.ref q.1)) (L1.map fun p : TRow => dT dI p.2)) false (L1.map fun q => Value.ref q.1) (L1.map fun q => Value.ref q.1) = out at hout
  obtain ⟨c, hc⟩ := sortedHeap_at (vs := L1.map fun q => Value.ref q.1) (out := out.toArray) hoL
  refine wpAny_pure ⟨_, rfl, hQ _ s1.heap.objs.size out.toArray c _ (fun b u e => ?_) g1 o1 hz hc (by rw [← hout]) ((List.mergeSort_perm _ _).trans p1) ?_⟩
  · show (sortedHeap h2 s1.heap.objs.size _ _).get? b = some u
    rw [sortedHeap_old (far b u e) (Heap.lt_size (up2 b u e))]
    exact up2 b u e
  · have e1 := sort_maps (r := dataLe false (fun p : TRow => dT dI p.2)) (s := leT) (fun p : TRow => p.2) (l := L1) fun x _ y _ => by
      show (!dataLt (dT dI y.2) (dT dI x.2)) = _
      rw [cmp_ints.lt]
      rfl
    exact e1.trans (sortT_perm (p1.map _))
end
end Mir
namespace Mir
open PySem L2
/-! ### sorted(set(xs)), xs a list of tuples of ints -/
noncomputable def tsetO (xs : List (List Int)) : Option (List (List Int)) := @ite _ (xs.length ≤ 64 ∧ xs.Nodup) (Classical.propDecidable _) (some (xs.mergeSort leT)) none
def tSortSetT (K : PySem.W.Frag) (te : TE) : TE := fun σ H Q => te σ H fun v H1 => ∃ (l : Addr) (ks : List TRow), v = .ref l ∧ SqL K H1 l (ks.map fun p => V.ref p.1) ∧ (∀ p ∈ ks, SqT K H1 p.1 (p.2.map V.int)) ∧ ks.length ≤ 64 ∧ (ks.map (·.2)).Nodup ∧
  ∀ (L2 : List TRow) p, L2.Perm ks → L2.map (·.2) = (ks.map (·.2)).mergeSort leT → H1 p = none → Q (.ref p) (upd H1 p (.lst (L2.map fun q => V.ref q.1)))
section
variable {X : Cx} {a : Expr} {ta : TE} {p p2 pos q : Pos}
open PySem.Spec PyProof.Rows PySem.Calls PySem.W in
theorem pe_sortSetT (hg : Gl X "sorted") (hm : X.mg "sorted" = none) (hg2 : Gl X "set") (hm2 : X.mg "set" = none) (hu : X.A.units + 100 < cLine) (ha : PE X a ta) (hc : X.calm = true := by rfl)
    (na : starEach [a] X.env = (false, eval a X.env) :: starEach [] X.env := by rfl) : PE X (.Call (.Name "sorted" p) [.Call (.Name "set" p2) [a] [] q] [] pos) (tSortSetT X.K ta) := by
  refine ⟨fun pins s σ H Q I h => Call_ (ld_blt I hg hm (show bootBuiltins "sorted" = some (.builtin "sorted") by decide +kernel) ?_)⟩
  refine PyProof.Rows.callWith_builtin1 (PyProof.Rows.args_cons ?_ rfl) rfl rfl
  refine Call_ (ld_blt I hg2 hm2 PyProof.Rows.boot_set ?_)
  refine PyProof.Rows.callWith_type1 (PyProof.Rows.args_cons (thn (ha.run pins s σ H _ I h) fun v s1 ⟨x, H1, I1, r1, q1⟩ => PyProof.Rows.args_nil ?_) na) na rfl
  obtain ⟨l, ks, rfl, hq, hk, h64, hnd, q1⟩ := q1
  cases r1
  obtain ⟨its, rv, pl, hz⟩ := I1.list hq
  refine call_set_big (P := X.prog) (w := X.w) ks (I1.ok.hd hc) pl.isList (by simpa using refs_of_vals rv) (fun p hp => I1.isT (hk p hp)) h64 hnd (by omega) fun h' tk L es ep t B pm hkeep => PyProof.Rows.args_nil ?_
  refine sorted_big (s := { s1 with heap := h', toks := tk }) B (I1.ok.hd hc) (by omega) fun s' p out c L3 k1 g1 o1 hz hp ho pm2 hmp => ?_
  have up : ∀ b u, s1.heap.get? b = some u → s'.heap.get? b = some u := fun b u e => k1 b u (hkeep b u e)
  have far : s1.heap.objs.size ≤ p := by
    obtain ⟨o, ho, _⟩ := B.sits
    exact Nat.le_trans (Nat.le_of_lt (Heap.lt_size ho)) hz
  have hl3 : L3.length = ks.length := (pm2.trans pm).length_eq
  have J : Inv X pins σ (upd H1 p (.lst (L3.map fun q => V.ref q.1))) { s1 with heap := s'.heap, gens := s'.gens, drawn := s'.drawn, toks := s'.toks } :=
    I1.call (ch := []) (Un.laid up far (I1.hok.fresh far)) (I1.hok.laid up far ⟨by rw [List.length_map, sizeLine_eq]; omega, out.toList, c, by rw [ho]; exact vals_of_refs L3, by rw [Array.toArray_toList]; exact hp⟩) (by rw [g1]; exact I1.bare) (fun _ z => nomatch z)
  refine ⟨.ref p, _, ?_, rfl, q1 L3 p (pm2.trans pm) (by rw [hmp]; exact sortT_perm (pm.map _)) (I1.hok.fresh far)⟩
  have e : s' = { s1 with heap := s'.heap, gens := s'.gens, drawn := s'.drawn, toks := s'.toks } := by
    cases s'
    cases s1
    cases o1
    rfl
  rw [e]
  exact J
theorem rps_ints {F : Hp} : ∀ {us : List V} {ns : List Int}, Rps F us (ns.map dI) → us = ns.map V.int
  | _, [], .nil => rfl
  | _, n :: ns, .cons r t => by
    cases r
    rw [rps_ints t]
    rfl
theorem rows_of {F : Hp} : ∀ {us : List V} {xs : List (List Int)}, Rps F us (xs.map (dT dI)) → ∃ ks : List TRow, us = ks.map (fun p => V.ref p.1) ∧ ks.map (·.2) = xs ∧ ∀ p ∈ ks, F p.1 = some (.tup (p.2.map V.int)) ∧ Rp F (.ref p.1) (dT dI p.2)
  | _, [], .nil => ⟨[], rfl, rfl, fun _ h => by cases h⟩
  | _, x :: xs, .cons r t => by
    obtain ⟨ks, h1, h2, h3⟩ := rows_of t
    have r' := r
    cases r with
    | @tup b ys _ hF hr =>
      have e := rps_ints hr
      subst e
      exact ⟨(b, x) :: ks, by rw [List.map_cons, h1], by rw [List.map_cons, h2], fun p hp => by
        rcases List.mem_cons.mp hp with e | hp
        · rw [e]; exact ⟨hF, r'⟩
        · exact h3 p hp⟩
theorem paired_rows {K : PySem.W.Frag} {F : Hp} : ∀ {L : List TRow}, (∀ p ∈ L, Rp F (.ref p.1) (dT dI p.2)) → Paired (SvR K F) (L.map fun q => V.ref q.1) (((L.map (·.2)).map (dT dI)).map .dat)
  | [], _ => .nil
  | p :: L, h => .cons (h p List.mem_cons_self) (paired_rows fun q hq => h q (List.mem_cons_of_mem _ hq))
theorem n_sortedSetT {e : Expr} {ρ : Env} {L : Ow} {o : Option (List (List Int))} {j : Nat} (hr : Room j X.A) (hc : X.calm = true) (h : QL X (dT dI) e ρ L o) (hm : X.mg "sorted" = none) (hm2 : X.mg "set" = none) (na : starEach [e] X.env = (false, eval e X.env) :: starEach [] X.env := by rfl)
    (hh : X.mg "sorted" = none → X.mg "set" = none → X.A.units + 100 < cLine → ∀ {ta}, PE X e ta → PE X (.Call (.Name "sorted" p) [.Call (.Name "set" p2) [e] [] q] [] pos) (tSortSetT X.K ta) := by intro hm hm2 hu _ h; exact pe_sortSetT (by rfl) hm (by rfl) hm2 hu h) :
    EN X (dT dI) (.Call (.Name "sorted" p) [.Call (.Name "set" p2) [e] [] q] [] pos) ρ L (o.bind tsetO) := by
  obtain ⟨t, p, h⟩ := h
  refine ⟨_, hh hm hm2 (by have := hr.un; omega) p, fun z hz B F0 σ H vs ds Q s k => ?_⟩
  obtain ⟨xs, hx, hz⟩ := Option.bind_eq_some_iff.mp hz
  unfold tsetO at hz
  split at hz
  rotate_left
  · cases hz
  rename_i hl
  obtain rfl : xs.mergeSort leT = z := by simpa using hz
  refine h xs hx B F0 σ H vs ds _ s fun v sl H1 q s1 => ?_
  obtain ⟨a, us, rfl, h1, h2, h4, h3⟩ := s1.lstOf q
  obtain ⟨F, ok, sl', sv⟩ := id h3
  obtain ⟨sv1, sv2⟩ := pr_split (by rw [List.length_map]; exact h2) sv
  obtain ⟨ks, e1, e2, e3⟩ := rows_of (dats sv1)
  subst e1
  have hlen : ks.length = xs.length := by rw [← e2, List.length_map]
  refine ⟨a, ks, rfl, SqL.of h1, fun p hp => SqT.of (ok.le _ _ (e3 p hp).1), by omega, by rw [e2]; exact hl.2, fun L2 p pm hmp hp => k p _ (St.newLst (us := L2.map fun q => V.ref q.1) ?_ ?_ hp (by rw [List.length_map, pm.length_eq, sizeLine_eq]; omega))⟩
  · refine ⟨F, ok, sl', pr_app ?_ (by cases sv2 with | cons _ t => exact t)⟩
    rw [e2] at hmp
    rw [← hmp]
    exact paired_rows fun p hp => (e3 p (pm.mem_iff.mp hp)).2
  · rw [List.length_map, List.length_map, List.length_map, List.length_mergeSort, pm.length_eq, hlen]
end
end Mir
namespace Prog
open PySem L2 Mir
def topS (i : Nat) : Stmt := PySem.Challenge.pw_chasedwebs_k31_whole_lamps_of_great_webs.main.body.getD i (.Pass ⟨0, 0, 0, 0⟩)
abbrev s_beside : Stmt := topS 1
theorem sc_beside : FnScope ["ties", "place", "a", "b"] ["ties", "place"] (defScope s_beside) := ⟨rfl, rfl, rfl, by decide +kernel, rfl, by decide +kernel, by decide +kernel⟩
abbrev s_ward : Stmt := topS 2
theorem sc_ward : FnScope ["ties", "place"] ["ties", "place"] (defScope s_ward) := ⟨rfl, rfl, rfl, by decide +kernel, rfl, by decide +kernel, by decide +kernel⟩
abbrev s_figure_of : Stmt := topS 4
theorem sc_figure_of : FnScope ["some", "place"] ["some"] (defScope s_figure_of) := ⟨rfl, rfl, rfl, by decide +kernel, rfl, by decide +kernel, by decide +kernel⟩
abbrev s_set_of : Stmt := topS 5
theorem sc_set_of : FnScope ["mask", "told", "place"] ["mask"] (defScope s_set_of) := ⟨rfl, rfl, rfl, by decide +kernel, rfl, by decide +kernel, by decide +kernel⟩
abbrev s_height : Stmt := topS 6
theorem sc_height : FnScope ["mask", "told"] ["mask"] (defScope s_height) := ⟨rfl, rfl, rfl, by decide +kernel, rfl, by decide +kernel, by decide +kernel⟩
abbrev s_made_by : Stmt := topS 7
theorem sc_made_by : FnScope ["n", "ties", "place"] ["n", "ties"] (defScope s_made_by) := ⟨rfl, rfl, rfl, by decide +kernel, rfl, by decide +kernel, by decide +kernel⟩
abbrev s_picture_of : Stmt := topS 8
theorem sc_picture_of : FnScope ["n", "ties", "some", "rows", "told", "place"] ["n", "ties", "some"] (defScope s_picture_of) := ⟨rfl, rfl, rfl, by decide +kernel, rfl, by decide +kernel, by decide +kernel⟩
abbrev s_settled : Stmt := topS 9
theorem sc_settled : FnScope ["n", "ties", "heads", "idle", "place", "row", "presses", "other", "more"] ["n", "ties"] (defScope s_settled) := ⟨rfl, rfl, rfl, by decide +kernel, rfl, by decide +kernel, by decide +kernel⟩
abbrev s_presses_by : Stmt := topS 10
theorem sc_presses_by : FnScope ["n", "ties", "picture", "heads", "_", "left", "told", "other", "more"] ["n", "ties", "picture"] (defScope s_presses_by) := ⟨rfl, rfl, rfl, by decide +kernel, rfl, by decide +kernel, by decide +kernel⟩
abbrev s_can_make : Stmt := topS 11
theorem sc_can_make : FnScope ["n", "ties", "picture"] ["n", "ties", "picture"] (defScope s_can_make) := ⟨rfl, rfl, rfl, by decide +kernel, rfl, by decide +kernel, by decide +kernel⟩
abbrev s_any_presses : Stmt := topS 12
theorem sc_any_presses : FnScope ["n", "ties", "picture", "told"] ["n", "ties", "picture"] (defScope s_any_presses) := ⟨rfl, rfl, rfl, by decide +kernel, rfl, by decide +kernel, by decide +kernel⟩
abbrev s_slack : Stmt := topS 13
theorem sc_slack : FnScope ["n", "ties"] ["n", "ties"] (defScope s_slack) := ⟨rfl, rfl, rfl, by decide +kernel, rfl, by decide +kernel, by decide +kernel⟩
abbrev s_sums_of : Stmt := topS 14
theorem sc_sums_of : FnScope ["rows", "found", "row", "mask"] ["rows"] (defScope s_sums_of) := ⟨rfl, rfl, rfl, by decide +kernel, rfl, by decide +kernel, by decide +kernel⟩
abbrev s_idle_sets : Stmt := topS 15
theorem sc_idle_sets : FnScope ["n", "ties", "mask"] ["n", "ties"] (defScope s_idle_sets) := ⟨rfl, rfl, rfl, by decide +kernel, rfl, by decide +kernel, by decide +kernel⟩
abbrev s__law_state : Stmt := topS 17
theorem sc__law_state : FnScope ["script", "seed", "cell"] ["script"] (defScope s__law_state) := ⟨rfl, rfl, rfl, by decide +kernel, rfl, by decide +kernel, by decide +kernel⟩
abbrev s__law_draw : Stmt := topS 18
theorem sc__law_draw : FnScope ["state", "many", "cells", "value", "mixed"] ["state", "many"] (defScope s__law_draw) := ⟨rfl, rfl, rfl, by decide +kernel, rfl, by decide +kernel, by decide +kernel⟩
abbrev s__law_pick : Stmt := topS 19
theorem sc__law_pick : FnScope ["state", "row"] ["state", "row"] (defScope s__law_pick) := ⟨rfl, rfl, rfl, by decide +kernel, rfl, by decide +kernel, by decide +kernel⟩
abbrev s__law_eq : Stmt := topS 20
theorem sc__law_eq : FnScope ["told", "due", "k"] ["told", "due"] (defScope s__law_eq) := ⟨rfl, rfl, rfl, by decide +kernel, rfl, by decide +kernel, by decide +kernel⟩
abbrev s__law_web : Stmt := topS 21
theorem sc__law_web : FnScope ["state", "n", "share", "told", "a", "b"] ["state", "n", "share"] (defScope s__law_web) := ⟨rfl, rfl, rfl, by decide +kernel, rfl, by decide +kernel, by decide +kernel⟩
abbrev s__law_path : Stmt := topS 22
theorem sc__law_path : FnScope ["n", "i"] ["n"] (defScope s__law_path) := ⟨rfl, rfl, rfl, by decide +kernel, rfl, by decide +kernel, by decide +kernel⟩
abbrev s__law_ring : Stmt := topS 23
theorem sc__law_ring : FnScope ["n", "i"] ["n"] (defScope s__law_ring) := ⟨rfl, rfl, rfl, by decide +kernel, rfl, by decide +kernel, by decide +kernel⟩
abbrev s__law_whole : Stmt := topS 24
theorem sc__law_whole : FnScope ["n", "told", "a", "b"] ["n"] (defScope s__law_whole) := ⟨rfl, rfl, rfl, by decide +kernel, rfl, by decide +kernel, by decide +kernel⟩
abbrev s__law_board : Stmt := topS 25
theorem sc__law_board : FnScope ["rows", "columns", "told", "x", "y"] ["rows", "columns"] (defScope s__law_board) := ⟨rfl, rfl, rfl, by decide +kernel, rfl, by decide +kernel, by decide +kernel⟩
abbrev s_law : Stmt := topS 26
theorem sc_law : FnScope ["script", "state", "n", "ties", "every", "told", "some", "picture", "again", "both", "other", "joint", "one", "two", "d", "idle", "drawn", "right", "m", "side", "x", "row"] ["script"] (defScope s_law) := ⟨rfl, rfl, rfl, by decide +kernel, rfl, by decide +kernel, by decide +kernel⟩
structure Txt (mg : Str → Option Value) : Prop where
  b_abs : mg "abs" = none
  b_bool : mg "bool" = none
  b_enumerate : mg "enumerate" = none
  b_int : mg "int" = none
  b_isinstance : mg "isinstance" = none
  b_len : mg "len" = none
  b_list : mg "list" = none
  b_range : mg "range" = none
  b_set : mg "set" = none
  b_sorted : mg "sorted" = none
  b_str : mg "str" = none
  b_sum : mg "sum" = none
  b_tuple : mg "tuple" = none
noncomputable def m_beside (ties : List (Int × Int)) (place : Int) : Option (List Int) :=
  (filtO (fun (x : Int × Int) => some (decide (place ∈ [x.1, x.2]))) (fun (x : Int × Int) => some ((x.1 + x.2) - place)) ties).map fun u => u.mergeSort leI
abbrev Kn_beside (P : Program) (w : World) (K : PySem.W.Frag) (mg : Str → Option Value) (base : Heap) : Prop := Knows P w K mg base "beside" 1 ["ties", "place"] (spP K (encC (dT (dP dI dI)) (encC dI enc0)) (dL dI) (fun a : (List (Int × Int)) × Int × Unit => m_beside a.1 a.2.1))
theorem k_beside {P : Program} {w : World} {K : PySem.W.Frag} {mg : Str → Option Value} {base : Heap} {f : Addr} {fd : FuncData} (F : Fun K "beside" "beside" s_beside f fd) (hm : mg "beside" = some (.ref f)) (hb : Binds K fd ["ties", "place"] []) (T : Txt mg)  : Kn_beside P w K mg base :=
  knows_fn F hm hb sc_beside (fun _ => rfl) (fun cdv A outer s0_ H E hr a => by
    obtain ⟨ties, place, _⟩ := a
    exact BX.conv ((b_retr (L1 := []) (EN.x (n_sorted srt_int hr (EX.l (EN.x (LCA.n (lp_if (own := [("a", 2), ("b", 3)]) (d := dI) (i_tup (x_var (d := (dT (dP dI dI))) (a := ties) 0)) (fun _ => trivial) (fun _ _ _ _ _ x => (y_tup (xs := [dI x.1, dI x.2]) rfl (ys_cons (y_name (s := .dat (dI x.1)) 2 sc_beside.nd) (ys_cons (y_name (s := .dat (dI x.2)) 3 sc_beside.nd) ys_nil)))) (fun _ _ _ _ _ x M => (t_in lw_int hr (x_var (d := dI) (a := place) 1) (EX.qt (x_th (d := dI) (h_cons (x_var (d := dI) (a := x.1) 2) (h_cons (x_var (d := dI) (a := x.2) 3) h_nil)))))) (fun _ _ _ _ _ x M => (x_op op_sub o_sub (x_op op_add o_add (x_var (d := dI) (a := x.1) 2) (x_var (d := dI) (a := x.2) 3)) (x_var (d := dI) (a := place) 1)))) sc_beside.nd (blkOk_by (own := [("a", 2), ("b", 3)]) (N := ["ties", "place", "a", "b"]) (sc := defScope s_beside) (by decide +kernel))))) T.b_sorted)))) (by kernel_rfl))
noncomputable def m_ward (ties : List (Int × Int)) (place : Int) : Option (List Int) :=
  ((m_beside ties place).bind fun u => catO u [place]).map fun u1 => u1.mergeSort leI
abbrev Kn_ward (P : Program) (w : World) (K : PySem.W.Frag) (mg : Str → Option Value) (base : Heap) : Prop := Knows P w K mg base "ward" 2 ["ties", "place"] (spP K (encC (dT (dP dI dI)) (encC dI enc0)) (dL dI) (fun a : (List (Int × Int)) × Int × Unit => m_ward a.1 a.2.1))
theorem k_ward {P : Program} {w : World} {K : PySem.W.Frag} {mg : Str → Option Value} {base : Heap} {f : Addr} {fd : FuncData} (F : Fun K "ward" "ward" s_ward f fd) (hm : mg "ward" = some (.ref f)) (hb : Binds K fd ["ties", "place"] []) (T : Txt mg) (K_beside : Kn_beside P w K mg base) : Kn_ward P w K mg base :=
  knows_fn F hm hb sc_ward (fun _ => rfl) (fun cdv A outer s0_ H E hr a => by
    obtain ⟨ties, place, _⟩ := a
    exact BX.conv ((b_retr (L1 := []) (EN.x (n_sorted srt_int hr (EX.l (EN.x (n_cat (EX.l (x_call K_beside hr (a_C (x_var (d := (dT (dP dI dI))) (a := ties) 0) (a_C (x_var (d := dI) (a := place) 1) a_0)))) (EX.l (EN.x (n_lh (d := dI) (h_cons (x_var (d := dI) (a := place) 1) h_nil))))))) T.b_sorted)))) (by kernel_rfl))
noncomputable def m_figure_of (some_ : List Int) : Option Int :=
  (mapO (fun (place : Int) => shlO 1 place) some_).map fun u => u.sum
abbrev Kn_figure_of (P : Program) (w : World) (K : PySem.W.Frag) (mg : Str → Option Value) (base : Heap) : Prop := Knows P w K mg base "figure_of" 1 ["some"] (spP K (encC (dL dI) enc0) dI (fun a : (List Int) × Unit => m_figure_of a.1))
theorem k_figure_of {P : Program} {w : World} {K : PySem.W.Frag} {mg : Str → Option Value} {base : Heap} {f : Addr} {fd : FuncData} (F : Fun K "figure_of" "figure_of" s_figure_of f fd) (hm : mg "figure_of" = some (.ref f)) (hb : Binds K fd ["some"] []) (T : Txt mg)  : Kn_figure_of P w K mg base :=
  knows_fn F hm hb sc_figure_of (fun _ => rfl) (fun cdv A outer s0_ H E hr a => by
    obtain ⟨some_, _⟩ := a
    exact BX.conv ((b_retr (L1 := []) (x_sum rfl (EX.l (EN.x (LCA.n (lp_no (own := [("place", 1)]) (d := dI) (i_lst (x_var (d := (dL dI)) (a := some_) 0)) (fun _ => trivial) (fun _ _ _ _ _ place => (y_name (s := .dat (dI place)) 1 sc_figure_of.nd)) (fun _ _ _ _ _ place M => (x_op op_shl o_shl x_int (x_var (d := dI) (a := place) 1)))) sc_figure_of.nd (blkOk_by (own := [("place", 1)]) (N := ["some", "place"]) (sc := defScope s_figure_of) (by decide +kernel))))) T.b_sum))) (by kernel_rfl))
noncomputable def m_figure_of_T (some_ : List Int) : Option Int :=
  (mapO (fun (place : Int) => shlO 1 place) some_).map fun u => u.sum
abbrev Kn_figure_of_T (P : Program) (w : World) (K : PySem.W.Frag) (mg : Str → Option Value) (base : Heap) : Prop := Knows P w K mg base "figure_of" 1 ["some"] (spP K (encC (dT dI) enc0) dI (fun a : (List Int) × Unit => m_figure_of_T a.1))
theorem k_figure_of_T {P : Program} {w : World} {K : PySem.W.Frag} {mg : Str → Option Value} {base : Heap} {f : Addr} {fd : FuncData} (F : Fun K "figure_of" "figure_of" s_figure_of f fd) (hm : mg "figure_of" = some (.ref f)) (hb : Binds K fd ["some"] []) (T : Txt mg)  : Kn_figure_of_T P w K mg base :=
  knows_fn F hm hb sc_figure_of (fun _ => rfl) (fun cdv A outer s0_ H E hr a => by
    obtain ⟨some_, _⟩ := a
    exact BX.conv ((b_retr (L1 := []) (x_sum rfl (EX.l (EN.x (LCA.n (lp_no (own := [("place", 1)]) (d := dI) (i_tup (x_var (d := (dT dI)) (a := some_) 0)) (fun _ => trivial) (fun _ _ _ _ _ place => (y_name (s := .dat (dI place)) 1 sc_figure_of.nd)) (fun _ _ _ _ _ place M => (x_op op_shl o_shl x_int (x_var (d := dI) (a := place) 1)))) sc_figure_of.nd (blkOk_by (own := [("place", 1)]) (N := ["some", "place"]) (sc := defScope s_figure_of) (by decide +kernel))))) T.b_sum))) (by kernel_rfl))
noncomputable def m_set_of (fu : Nat) (mask_ : Int) : Option (List Int) :=
  let told : List Int := ([] : List Int); let place : Int := 0; (loopO (fun (s1 : Int × Int × (List Int)) => some (decide (s1.1 > 0))) (fun (s1 : Int × Int × (List Int)) => (if (decide ((s1.1 % 2) = 1)) then (appO s1.2.2 s1.2.1).bind fun told1 => some (told1) else some (s1.2.2)).bind fun s2 => some (let q : Int × Int := (s1.1 / 2, s1.2.1 + 1); (q.1, q.2, s2))) fu (mask_, place, told)).bind fun s3 => tupO s3.2.2
abbrev Kn_set_of (P : Program) (w : World) (K : PySem.W.Frag) (mg : Str → Option Value) (base : Heap) (fu : Nat) : Prop := Knows P w K mg base "set_of" 1 ["mask"] (spP K (encC dI enc0) (dT dI) (fun a : Int × Unit => m_set_of fu a.1))
theorem k_set_of (fu : Nat) {P : Program} {w : World} {K : PySem.W.Frag} {mg : Str → Option Value} {base : Heap} {f : Addr} {fd : FuncData} (F : Fun K "set_of" "set_of" s_set_of f fd) (hm : mg "set_of" = some (.ref f)) (hb : Binds K fd ["mask"] []) (T : Txt mg)  : Kn_set_of P w K mg base fu :=
  knows_fn F hm hb sc_set_of (fun _ => rfl) (fun cdv A outer s0_ H E hr a => by
    obtain ⟨mask_, _⟩ := a
    exact BX.conv ((b_setO 1 sc_set_of.nd (EN.o (n_lh (d := dI) h_nil)) (fun p_told told => (b_step (s_set 2 sc_set_of.nd x_int) (fun place => (b_step (vw := (fun s_ : Int × Int × (List Int) => ([some (.dat (dI s_.1)), some (.ptr p_told), some (.dat (dI s_.2.1))], [(p_told, odL dI s_.2.2)]))) (s_loop (vw := (fun s_ : Int × Int × (List Int) => ([some (.dat (dI s_.1)), some (.ptr p_told), some (.dat (dI s_.2.1))], [(p_told, odL dI s_.2.2)]))) (n := fu) (s0 := (mask_, place, told)) (bs := [true, true, true]) PassesOwn.never (fun s1 => (t_cmp op_gt o_gt (x_var (d := dI) (a := s1.1) 0) x_int)) (fun s1 => (b_step (vw := (fun s_ : List Int => ([some (.dat (dI s1.1)), some (.ptr p_told), some (.dat (dI s1.2.1))], [(p_told, odL dI s_)]))) (s_if (t_cmp op_eq o_eqI (x_modL (x_var (d := dI) (a := s1.1) 0)) x_int) (b_step (s_append (d := dI) (xs := s1.2.2) 0 rfl (s_var (s := .ptr p_told) 1 rfl) (x_var (d := dI) (a := s1.2.1) 2)) (fun told1 => (b_end (b := told1) [true, true, true] rfl))) (b_end (b := s1.2.2) [true, true, true] rfl)) (fun s2 => (b_step (s_par 0 2 rfl sc_set_of.nd (x_divL (x_var (d := dI) (a := s1.1) 0)) (x_op op_add o_add (x_var (d := dI) (a := s1.2.1) 2) x_int)) (fun q => (b_end (b := (q.1, q.2, s2)) [true, true, true] rfl)))))) rfl) (fun s3 => (b_retr (L1 := []) (x_tuple (ES.q (d := dI) (xs := s3.2.2) (s_var (s := .ptr p_told) 1 rfl) (mem_at (j := 0) rfl)) T.b_tuple))))))))) (by kernel_rfl))
noncomputable def m_height (fu : Nat) (mask_ : Int) : Option Int :=
  let told : Int := 0; (loopO (fun (s1 : Int) => (shrO mask_ s1).bind fun u => some (decide (u > 0))) (fun (s1 : Int) => some (let told1 : Int := s1 + 1; told1)) fu told).bind fun s2 => some (s2)
abbrev Kn_height (P : Program) (w : World) (K : PySem.W.Frag) (mg : Str → Option Value) (base : Heap) (fu : Nat) : Prop := Knows P w K mg base "height" 1 ["mask"] (spP K (encC dI enc0) dI (fun a : Int × Unit => m_height fu a.1))
theorem k_height (fu : Nat) {P : Program} {w : World} {K : PySem.W.Frag} {mg : Str → Option Value} {base : Heap} {f : Addr} {fd : FuncData} (F : Fun K "height" "height" s_height f fd) (hm : mg "height" = some (.ref f)) (hb : Binds K fd ["mask"] []) (T : Txt mg)  : Kn_height P w K mg base fu :=
  knows_fn F hm hb sc_height (fun _ => rfl) (fun cdv A outer s0_ H E hr a => by
    obtain ⟨mask_, _⟩ := a
    exact BX.conv ((b_step (s_set 1 sc_height.nd x_int) (fun told => (b_step (vw := (fun s_ : Int => ([some (.dat (dI mask_)), some (.dat (dI s_))], []))) (s_loop (vw := (fun s_ : Int => ([some (.dat (dI mask_)), some (.dat (dI s_))], []))) (n := fu) (s0 := told) (bs := [true, true]) PassesOwn.never (fun s1 => (t_cmp op_gt o_gt (x_op op_shr o_shr (x_var (d := dI) (a := mask_) 0) (x_var (d := dI) (a := s1) 1)) x_int)) (fun s1 => (b_step (s_aug (d := dI) (x := s1) 1 sc_height.nd iop_add o_add rfl x_int) (fun told1 => (b_end (b := told1) [true, true] rfl)))) rfl) (fun s2 => (b_retr (L1 := []) (x_var (d := dI) (a := s2) 1))))))) (by kernel_rfl))
noncomputable def m_made_by (n : Int) (ties : List (Int × Int)) : Option (List Int) :=
  (rngL 0 n).bind fun u1 => mapO (fun (place : Int) => (m_ward ties place).bind fun u => m_figure_of u) u1
abbrev Kn_made_by (P : Program) (w : World) (K : PySem.W.Frag) (mg : Str → Option Value) (base : Heap) : Prop := Knows P w K mg base "made_by" 3 ["n", "ties"] (spP K (encC dI (encC (dT (dP dI dI)) enc0)) (dL dI) (fun a : Int × (List (Int × Int)) × Unit => m_made_by a.1 a.2.1))
theorem k_made_by {P : Program} {w : World} {K : PySem.W.Frag} {mg : Str → Option Value} {base : Heap} {f : Addr} {fd : FuncData} (F : Fun K "made_by" "made_by" s_made_by f fd) (hm : mg "made_by" = some (.ref f)) (hb : Binds K fd ["n", "ties"] []) (T : Txt mg) (K_figure_of : Kn_figure_of P w K mg base) (K_ward : Kn_ward P w K mg base) : Kn_made_by P w K mg base :=
  knows_fn F hm hb sc_made_by (fun _ => rfl) (fun cdv A outer s0_ H E hr a => by
    obtain ⟨n, ties, _⟩ := a
    exact BX.conv ((b_retr (L1 := []) (EN.x (LCA.n (lp_no (own := [("place", 2)]) (d := dI) (i_rangeL (x_var (d := dI) (a := n) 0) T.b_range) (fun _ => trivial) (fun _ _ _ _ _ place => (y_name (s := .dat (dI place)) 2 sc_made_by.nd)) (fun _ _ _ _ _ place M => (EX.conv (x_call K_figure_of hr (a_C (x_call K_ward hr (a_C (x_var (d := (dT (dP dI dI))) (a := ties) 1) (a_C (x_var (d := dI) (a := place) 2) a_0))) a_0)) (ca1 (m_ward ties place) _)))) sc_made_by.nd (blkOk_by (own := [("place", 2)]) (N := ["n", "ties", "place"]) (sc := defScope s_made_by) (by decide +kernel)))))) (by kernel_rfl))
noncomputable def m_picture_of (fu : Nat) (n : Int) (ties : List (Int × Int)) (some_ : List Int) : Option (List Int) :=
  (m_made_by n ties).bind fun rows => let told : Int := 0; (foldO (fun (s1 : Int) (place : Int) => ((atO rows place).bind fun u => some (bXor s1 u)).bind fun told1 => some (told1)) some_ told).bind fun s2 => m_set_of fu s2
abbrev Kn_picture_of (P : Program) (w : World) (K : PySem.W.Frag) (mg : Str → Option Value) (base : Heap) (fu : Nat) : Prop := Knows P w K mg base "picture_of" 4 ["n", "ties", "some"] (spP K (encC dI (encC (dT (dP dI dI)) (encC (dT dI) enc0))) (dT dI) (fun a : Int × (List (Int × Int)) × (List Int) × Unit => m_picture_of fu a.1 a.2.1 a.2.2.1))
theorem k_picture_of (fu : Nat) {P : Program} {w : World} {K : PySem.W.Frag} {mg : Str → Option Value} {base : Heap} {f : Addr} {fd : FuncData} (F : Fun K "picture_of" "picture_of" s_picture_of f fd) (hm : mg "picture_of" = some (.ref f)) (hb : Binds K fd ["n", "ties", "some"] []) (T : Txt mg) (K_made_by : Kn_made_by P w K mg base) (K_set_of : Kn_set_of P w K mg base fu) : Kn_picture_of P w K mg base fu :=
  knows_fn F hm hb sc_picture_of (fun _ => rfl) (fun cdv A outer s0_ H E hr a => by
    obtain ⟨n, ties, some_, _⟩ := a
    exact BX.conv ((b_step (s_set 3 sc_picture_of.nd (x_call K_made_by hr (a_C (x_var (d := dI) (a := n) 0) (a_C (x_var (d := (dT (dP dI dI))) (a := ties) 1) a_0)))) (fun rows => (b_step (s_set 4 sc_picture_of.nd x_int) (fun told => (b_step (vw := (fun s_ : Int => ([none, none, none, some (.dat ((dL dI) rows)), some (.dat (dI s_)), none], []))) (s_fold (vw := (fun s_ : Int => ([none, none, none, some (.dat ((dL dI) rows)), some (.dat (dI s_)), none], []))) (s0 := told) (bs := [false, false, false, true, true, false]) PassesOwn.never rfl (i_tup (x_var (d := (dT dI)) (a := some_) 2)) (fun s1 place => (g_name 5 sc_picture_of.nd)) (fun s1 place => (b_step (s_set 4 sc_picture_of.nd (x_op op_xor o_xor (x_var (d := dI) (a := s1) 4) (x_ix (EX.ql (x_var (d := (dL dI)) (a := rows) 3)) (x_var (d := dI) (a := place) 5)))) (fun told1 => (b_end (b := told1) [false, false, false, true, true, false] rfl)))) (fun _ => trivial) rfl) (fun s2 => (b_retr (L1 := []) (x_call K_set_of hr (a_C (x_var (d := dI) (a := s2) 4) a_0)))))))))) (by kernel_rfl))
noncomputable def m_settled (fu : Nat) (n : Int) (ties : List (Int × Int)) : Option ((List (Int × (Int × Int))) × (List Int)) :=
  let heads : List (Int × (Int × Int)) := []; let idle : List Int := ([] : List Int); (((m_made_by n ties).map fun u => enumI u).bind fun u4 => foldO (fun (s1 : (List (Int × (Int × Int))) × (List Int)) (x : Int × Int) => (shlO 1 x.1).bind fun presses => (loopO (fun (s2 : Int × Int) => if (decide (s2.1 > 0)) then (m_height fu s2.1).map fun u1 => (dget s1.1 u1).isSome else some false) (fun (s2 : Int × Int) => ((m_height fu s2.1).bind fun u2 => dget s1.1 u2).bind fun q => some (let q1 : Int × Int := (bXor s2.1 q.1, bXor s2.2 q.2); (q1.1, q1.2))) fu (x.2, presses)).bind fun s3 => if (decide (s3.1 > 0)) then ((m_height fu s3.1).bind fun u3 => dputO s1.1 u3 (s3.1, s3.2)).bind fun heads1 => some ((heads1, s1.2)) else (appO s1.2 s3.2).bind fun idle1 => some ((s1.1, idle1))) u4 (heads, idle)).bind fun s4 => some ((s4.1, s4.2))
abbrev Kn_settled (P : Program) (w : World) (K : PySem.W.Frag) (mg : Str → Option Value) (base : Heap) (fu : Nat) : Prop := Knows P w K mg base "settled" 4 ["n", "ties"] (spP K (encC dI (encC (dT (dP dI dI)) enc0)) (dP (dC (dP dI dI)) (dL dI)) (fun a : Int × (List (Int × Int)) × Unit => m_settled fu a.1 a.2.1))
theorem k_settled (fu : Nat) {P : Program} {w : World} {K : PySem.W.Frag} {mg : Str → Option Value} {base : Heap} {f : Addr} {fd : FuncData} (F : Fun K "settled" "settled" s_settled f fd) (hm : mg "settled" = some (.ref f)) (hb : Binds K fd ["n", "ties"] []) (T : Txt mg) (K_height : Kn_height P w K mg base fu) (K_made_by : Kn_made_by P w K mg base) : Kn_settled P w K mg base fu :=
  knows_fn F hm hb sc_settled (fun _ => rfl) (fun cdv A outer s0_ H E hr a => by
    obtain ⟨n, ties, _⟩ := a
    exact BX.conv ((b_parOO 2 3 rfl sc_settled.nd ((e_dictK dI (dP dI dI))) (fun p_heads heads => (EN.o (n_lh (d := dI) h_nil))) (fun p_heads heads p_idle idle => (b_step (vw := (fun s_ : (List (Int × (Int × Int))) × (List Int) => ([none, none, some (.ptr p_heads), some (.ptr p_idle), none, none, none, none, none], [(p_heads, odK false dI (dP dI dI) s_.1), (p_idle, odL dI s_.2)]))) (s_fold (vw := (fun s_ : (List (Int × (Int × Int))) × (List Int) => ([none, none, some (.ptr p_heads), some (.ptr p_idle), none, none, none, none, none], [(p_heads, odK false dI (dP dI dI) s_.1), (p_idle, odL dI s_.2)]))) (s0 := (heads, idle)) (bs := [false, false, true, true, false, false, false, false, false]) PassesOwn.never rfl (i_enum (x_call K_made_by hr (a_C (x_var (d := dI) (a := n) 0) (a_C (x_var (d := (dT (dP dI dI))) (a := ties) 1) a_0))) T.b_enumerate) (fun s1 x => (g_tup (xs := [dI x.1, dI x.2]) rfl (gs_cons (g_name 4 sc_settled.nd) (gs_cons (g_name 5 sc_settled.nd) gs_nil)))) (fun s1 x => (b_step (s_set 6 sc_settled.nd (x_op op_shl o_shl x_int (x_var (d := dI) (a := x.1) 4))) (fun presses => (b_step (vw := (fun s_ : Int × Int => ([none, none, some (.ptr p_heads), some (.ptr p_idle), none, some (.dat (dI s_.1)), some (.dat (dI s_.2)), none, none], [(p_heads, odK false dI (dP dI dI) s1.1), (p_idle, odL dI s1.2)]))) (s_loop (vw := (fun s_ : Int × Int => ([none, none, some (.ptr p_heads), some (.ptr p_idle), none, some (.dat (dI s_.1)), some (.dat (dI s_.2)), none, none], [(p_heads, odK false dI (dP dI dI) s1.1), (p_idle, odL dI s1.2)]))) (n := fu) (s0 := (x.2, presses)) (bs := [false, false, true, true, false, true, true, false, false]) PassesOwn.never (fun s2 => (WX.t (w_and (t_cmp op_gt o_gt (x_var (d := dI) (a := s2.1) 5) x_int) (w_and1 (t_din 0 (.k ky_int) hr rfl (x_call K_height hr (a_C (x_var (d := dI) (a := s2.1) 5) a_0)) (s_var (s := .ptr p_heads) 2 rfl)))))) (fun s2 => (b_step (s_asg (x_dget 0 (.k ky_int) hr rfl (s_var (s := .ptr p_heads) 2 rfl) (x_call K_height hr (a_C (x_var (d := dI) (a := s2.1) 5) a_0))) (fun q => (g_tup (xs := [dI q.1, dI q.2]) rfl (gs_cons (g_name 7 sc_settled.nd) (gs_cons (g_name 8 sc_settled.nd) gs_nil))))) (fun q => (b_step (s_par 5 6 rfl sc_settled.nd (x_op op_xor o_xor (x_var (d := dI) (a := s2.1) 5) (x_var (d := dI) (a := q.1) 7)) (x_op op_xor o_xor (x_var (d := dI) (a := s2.2) 6) (x_var (d := dI) (a := q.2) 8))) (fun q1 => (b_end (b := (q1.1, q1.2)) [false, false, true, true, false, true, true, false, false] rfl)))))) rfl) (fun s3 => (b_one (s_if (t_cmp op_gt o_gt (x_var (d := dI) (a := s3.1) 5) x_int) (b_step (s_dput (dv := (dP dI dI)) (kvs := s1.1) 0 (.k ky_int) hr rfl (s_var (s := .ptr p_heads) 2 rfl) (x_call K_height hr (a_C (x_var (d := dI) (a := s3.1) 5) a_0)) (x_pair (x_var (d := dI) (a := s3.1) 5) (x_var (d := dI) (a := s3.2) 6))) (fun heads1 => (b_end (b := (heads1, s1.2)) [false, false, true, true, false, false, false, false, false] rfl))) (b_step (s_append (d := dI) (xs := s1.2) 1 rfl (s_var (s := .ptr p_idle) 3 rfl) (x_var (d := dI) (a := s3.2) 6)) (fun idle1 => (b_end (b := (s1.1, idle1)) [false, false, true, true, false, false, false, false, false] rfl)))))))))) (fun _ => trivial) rfl) (fun s4 => (b_frzC (dv := (dP dI dI)) (kvs := s4.1) 2 0 rfl rfl (b_frz (d := dI) (xs := s4.2) 3 0 rfl rfl (b_retr (L1 := []) (x_pair (x_var (d := (dC (dP dI dI))) (a := s4.1) 2) (x_var (d := (dL dI)) (a := s4.2) 3)))))))))) (by kernel_rfl))
noncomputable def m_presses_by (fu : Nat) (n : Int) (ties : List (Int × Int)) (picture : List Int) : Option (Option Int) :=
  (m_settled fu n ties).bind fun q => ((m_figure_of_T picture).bind fun u => some ((u, 0))).bind fun q1 => (whileO (fun (s1 : Int × Int) => some (decide (s1.1 > 0))) (fun (s1 : Int × Int) => (((m_height fu s1.1).bind fun u1 => some (!(dget q.1 u1).isSome)).bind fun u3 => if u3 then some (Fl.ex none) else ((m_height fu s1.1).bind fun u2 => dget q.1 u2).bind fun q2 => some (let q3 : Int × Int := (bXor s1.1 q2.1, bXor s1.2 q2.2); (Fl.nx (q3.1, q3.2))) : Option (Fl (Int × Int) (Option Int)))) fu (q1.1, q1.2)).bind (Fx.on id fun s2 => some (some s2.2))
abbrev Kn_presses_by (P : Program) (w : World) (K : PySem.W.Frag) (mg : Str → Option Value) (base : Heap) (fu : Nat) : Prop := Knows P w K mg base "presses_by" 5 ["n", "ties", "picture"] (spP K (encC dI (encC (dT (dP dI dI)) (encC (dT dI) enc0))) (dO dI) (fun a : Int × (List (Int × Int)) × (List Int) × Unit => m_presses_by fu a.1 a.2.1 a.2.2.1))
theorem k_presses_by (fu : Nat) {P : Program} {w : World} {K : PySem.W.Frag} {mg : Str → Option Value} {base : Heap} {f : Addr} {fd : FuncData} (F : Fun K "presses_by" "presses_by" s_presses_by f fd) (hm : mg "presses_by" = some (.ref f)) (hb : Binds K fd ["n", "ties", "picture"] []) (T : Txt mg) (K_figure_of_T : Kn_figure_of_T P w K mg base) (K_height : Kn_height P w K mg base fu) (K_settled : Kn_settled P w K mg base fu) : Kn_presses_by P w K mg base fu :=
  knows_fn F hm hb sc_presses_by (fun _ => rfl) (fun cdv A outer s0_ H E hr a => by
    obtain ⟨n, ties, picture, _⟩ := a
    exact BX.conv ((b_step (s_asg (x_call K_settled hr (a_C (x_var (d := dI) (a := n) 0) (a_C (x_var (d := (dT (dP dI dI))) (a := ties) 1) a_0))) (fun q => (g_tup (xs := [(dC (dP dI dI)) q.1, (dL dI) q.2]) rfl (gs_cons (g_name 3 sc_presses_by.nd) (gs_cons (g_name 4 sc_presses_by.nd) gs_nil))))) (fun q => (b_step (s_par 5 6 rfl sc_presses_by.nd (x_call K_figure_of_T hr (a_C (x_var (d := (dT dI)) (a := picture) 2) a_0)) x_int) (fun q1 => (b_stepF (vw := (fun s_ : Int × Int => ([none, none, none, some (.dat ((dC (dP dI dI)) q.1)), none, some (.dat (dI s_.1)), some (.dat (dI s_.2)), none, none], []))) (rd := (fun r => (.dat ((dO dI) r), []))) id (s_while (vw := (fun s_ : Int × Int => ([none, none, none, some (.dat ((dC (dP dI dI)) q.1)), none, some (.dat (dI s_.1)), some (.dat (dI s_.2)), none, none], []))) (rd := (fun r => (.dat ((dO dI) r), []))) (n := fu) (s0 := (q1.1, q1.2)) (bs := [false, false, false, true, false, true, true, false, false]) PassesOwn.never (fun s1 => (t_cmp op_gt o_gt (x_var (d := dI) (a := s1.1) 5) x_int)) (fun s1 => (b_ifret (rd := (fun r => (.dat ((dO dI) r), []))) Fl.ex (t_cnotIn hr (x_call K_height hr (a_C (x_var (d := dI) (a := s1.1) 5) a_0)) (x_var (d := (dC (dP dI dI))) (a := q.1) 3)) (b_retr (L1 := []) (x_none (d := dI))) (b_step (s_asg (x_cget hr (x_var (d := (dC (dP dI dI))) (a := q.1) 3) (x_call K_height hr (a_C (x_var (d := dI) (a := s1.1) 5) a_0))) (fun q2 => (g_tup (xs := [dI q2.1, dI q2.2]) rfl (gs_cons (g_name 7 sc_presses_by.nd) (gs_cons (g_name 8 sc_presses_by.nd) gs_nil))))) (fun q2 => (b_step (s_par 5 6 rfl sc_presses_by.nd (x_op op_xor o_xor (x_var (d := dI) (a := s1.1) 5) (x_var (d := dI) (a := q2.1) 7)) (x_op op_xor o_xor (x_var (d := dI) (a := s1.2) 6) (x_var (d := dI) (a := q2.2) 8))) (fun q3 => (b_end (b := (Fl.nx (q3.1, q3.2))) [false, false, false, true, false, true, true, false, false] rfl))))))) rfl) (fun s2 => (b_retr (L1 := []) (x_opt (x_var (d := dI) (a := s2.2) 6)))))))))) (by kernel_rfl))
noncomputable def m_can_make (fu : Nat) (n : Int) (ties : List (Int × Int)) (picture : List Int) : Option Bool :=
  (m_presses_by fu n ties picture).bind fun u => some (u.isSome)
abbrev Kn_can_make (P : Program) (w : World) (K : PySem.W.Frag) (mg : Str → Option Value) (base : Heap) (fu : Nat) : Prop := Knows P w K mg base "can_make" 6 ["n", "ties", "picture"] (spP K (encC dI (encC (dT (dP dI dI)) (encC (dT dI) enc0))) dB (fun a : Int × (List (Int × Int)) × (List Int) × Unit => m_can_make fu a.1 a.2.1 a.2.2.1))
theorem k_can_make (fu : Nat) {P : Program} {w : World} {K : PySem.W.Frag} {mg : Str → Option Value} {base : Heap} {f : Addr} {fd : FuncData} (F : Fun K "can_make" "can_make" s_can_make f fd) (hm : mg "can_make" = some (.ref f)) (hb : Binds K fd ["n", "ties", "picture"] []) (T : Txt mg) (K_presses_by : Kn_presses_by P w K mg base fu) : Kn_can_make P w K mg base fu :=
  knows_fn F hm hb sc_can_make (fun _ => rfl) (fun cdv A outer s0_ H E hr a => by
    obtain ⟨n, ties, picture, _⟩ := a
    exact BX.conv ((b_retr (L1 := []) (x_cmp op_notN (o_notN (d := dI) (by intro a h; cases h)) (x_call K_presses_by hr (a_C (x_var (d := dI) (a := n) 0) (a_C (x_var (d := (dT (dP dI dI))) (a := ties) 1) (a_C (x_var (d := (dT dI)) (a := picture) 2) a_0)))) x_unit))) (by kernel_rfl))
noncomputable def m_any_presses (fu : Nat) (n : Int) (ties : List (Int × Int)) (picture : List Int) : Option (Option (List Int)) :=
  (m_presses_by fu n ties picture).bind fun told => if told.isNone then some (none) else ((told).bind fun u => m_set_of fu u).map some
abbrev Kn_any_presses (P : Program) (w : World) (K : PySem.W.Frag) (mg : Str → Option Value) (base : Heap) (fu : Nat) : Prop := Knows P w K mg base "any_presses" 6 ["n", "ties", "picture"] (spP K (encC dI (encC (dT (dP dI dI)) (encC (dT dI) enc0))) (dO (dT dI)) (fun a : Int × (List (Int × Int)) × (List Int) × Unit => m_any_presses fu a.1 a.2.1 a.2.2.1))
theorem k_any_presses (fu : Nat) {P : Program} {w : World} {K : PySem.W.Frag} {mg : Str → Option Value} {base : Heap} {f : Addr} {fd : FuncData} (F : Fun K "any_presses" "any_presses" s_any_presses f fd) (hm : mg "any_presses" = some (.ref f)) (hb : Binds K fd ["n", "ties", "picture"] []) (T : Txt mg) (K_presses_by : Kn_presses_by P w K mg base fu) (K_set_of : Kn_set_of P w K mg base fu) : Kn_any_presses P w K mg base fu :=
  knows_fn F hm hb sc_any_presses (fun _ => rfl) (fun cdv A outer s0_ H E hr a => by
    obtain ⟨n, ties, picture, _⟩ := a
    exact BX.conv ((b_step (s_set 3 sc_any_presses.nd (x_call K_presses_by hr (a_C (x_var (d := dI) (a := n) 0) (a_C (x_var (d := (dT (dP dI dI))) (a := ties) 1) (a_C (x_var (d := (dT dI)) (a := picture) 2) a_0))))) (fun told => (b_retr (L1 := []) (x_if (t_cmp op_isN (o_isN (d := dI) (by intro a h; cases h)) (x_var (d := (dO dI)) (a := told) 3) x_unit) (x_none (d := (dT dI))) (x_opt (EX.conv (x_call K_set_of hr (a_C (x_some (x_var (d := (dO dI)) (a := told) 3)) a_0)) (ca1 (told) _)))))))) (by kernel_rfl))
noncomputable def m_slack (fu : Nat) (n : Int) (ties : List (Int × Int)) : Option Int :=
  ((m_settled fu n ties).map fun u => u.2).map fun u1 => (u1.length : Int)
abbrev Kn_slack (P : Program) (w : World) (K : PySem.W.Frag) (mg : Str → Option Value) (base : Heap) (fu : Nat) : Prop := Knows P w K mg base "slack" 5 ["n", "ties"] (spP K (encC dI (encC (dT (dP dI dI)) enc0)) dI (fun a : Int × (List (Int × Int)) × Unit => m_slack fu a.1 a.2.1))
theorem k_slack (fu : Nat) {P : Program} {w : World} {K : PySem.W.Frag} {mg : Str → Option Value} {base : Heap} {f : Addr} {fd : FuncData} (F : Fun K "slack" "slack" s_slack f fd) (hm : mg "slack" = some (.ref f)) (hb : Binds K fd ["n", "ties"] []) (T : Txt mg) (K_settled : Kn_settled P w K mg base fu) : Kn_slack P w K mg base fu :=
  knows_fn F hm hb sc_slack (fun _ => rfl) (fun cdv A outer s0_ H E hr a => by
    obtain ⟨n, ties, _⟩ := a
    exact BX.conv ((b_retr (L1 := []) (x_len (EX.ql (x_ixT (n := 0) (g := fun q => q.2) (d' := (dL dI)) (x_call K_settled hr (a_C (x_var (d := dI) (a := n) 0) (a_C (x_var (d := (dT (dP dI dI))) (a := ties) 1) a_0))) (fun _ => rfl) (fun _ => rfl))) T.b_len))) (by kernel_rfl))
noncomputable def m_sums_of (rows : List Int) : Option (List Int) :=
  let found : List Int := [0]; (foldO (fun (s1 : List Int) (row : Int) => ((mapO (fun (mask_ : Int) => some (bXor mask_ row)) s1).bind fun u => catO s1 u).bind fun found1 => some (found1)) rows found).bind fun s2 => some (s2)
abbrev Kn_sums_of (P : Program) (w : World) (K : PySem.W.Frag) (mg : Str → Option Value) (base : Heap) : Prop := Knows P w K mg base "sums_of" 1 ["rows"] (spP K (encC (dL dI) enc0) (dL dI) (fun a : (List Int) × Unit => m_sums_of a.1))
theorem k_sums_of {P : Program} {w : World} {K : PySem.W.Frag} {mg : Str → Option Value} {base : Heap} {f : Addr} {fd : FuncData} (F : Fun K "sums_of" "sums_of" s_sums_of f fd) (hm : mg "sums_of" = some (.ref f)) (hb : Binds K fd ["rows"] []) (T : Txt mg)  : Kn_sums_of P w K mg base :=
  knows_fn F hm hb sc_sums_of (fun _ => rfl) (fun cdv A outer s0_ H E hr a => by
    obtain ⟨rows, _⟩ := a
    exact BX.conv ((b_step (s_set 1 sc_sums_of.nd (EN.x (n_lh (d := dI) (h_cons x_int h_nil)))) (fun found => (b_step (vw := (fun s_ : List Int => ([none, some (.dat ((dL dI) s_)), none, none], []))) (s_fold (vw := (fun s_ : List Int => ([none, some (.dat ((dL dI) s_)), none, none], []))) (s0 := found) (bs := [false, true, false, false]) PassesOwn.never rfl (i_lst (x_var (d := (dL dI)) (a := rows) 0)) (fun s1 row => (g_name 2 sc_sums_of.nd)) (fun s1 row => (b_step (s_set 1 sc_sums_of.nd (EN.x (n_cat (EX.l (x_var (d := (dL dI)) (a := s1) 1)) (EX.l (EN.x (LCA.n (lp_no (own := [("mask", 3)]) (d := dI) (i_lst (x_var (d := (dL dI)) (a := s1) 1)) (fun _ => trivial) (fun _ _ _ _ _ mask_ => (y_name (s := .dat (dI mask_)) 3 sc_sums_of.nd)) (fun _ _ _ _ _ mask_ M => (x_op op_xor o_xor (x_var (d := dI) (a := mask_) 3) (x_var (d := dI) (a := row) 2)))) sc_sums_of.nd (blkOk_by (own := [("mask", 3)]) (N := ["rows", "found", "row", "mask"]) (sc := defScope s_sums_of) (by decide +kernel)))))))) (fun found1 => (b_end (b := found1) [false, true, false, false] rfl)))) (fun _ => trivial) rfl) (fun s2 => (b_retr (L1 := []) (x_var (d := (dL dI)) (a := s2) 1))))))) (by kernel_rfl))
noncomputable def m_idle_sets (fu : Nat) (n : Int) (ties : List (Int × Int)) : Option (List (List Int)) :=
  ((((m_settled fu n ties).map fun u => u.2).bind fun u1 => m_sums_of u1).bind fun u2 => mapO (fun (mask_ : Int) => m_set_of fu mask_) u2).map fun u3 => u3.mergeSort leT
abbrev Kn_idle_sets (P : Program) (w : World) (K : PySem.W.Frag) (mg : Str → Option Value) (base : Heap) (fu : Nat) : Prop := Knows P w K mg base "idle_sets" 5 ["n", "ties"] (spP K (encC dI (encC (dT (dP dI dI)) enc0)) (dL (dT dI)) (fun a : Int × (List (Int × Int)) × Unit => m_idle_sets fu a.1 a.2.1))
theorem k_idle_sets (fu : Nat) {P : Program} {w : World} {K : PySem.W.Frag} {mg : Str → Option Value} {base : Heap} {f : Addr} {fd : FuncData} (F : Fun K "idle_sets" "idle_sets" s_idle_sets f fd) (hm : mg "idle_sets" = some (.ref f)) (hb : Binds K fd ["n", "ties"] []) (T : Txt mg) (K_set_of : Kn_set_of P w K mg base fu) (K_settled : Kn_settled P w K mg base fu) (K_sums_of : Kn_sums_of P w K mg base) : Kn_idle_sets P w K mg base fu :=
  knows_fn F hm hb sc_idle_sets (fun _ => rfl) (fun cdv A outer s0_ H E hr a => by
    obtain ⟨n, ties, _⟩ := a
    exact BX.conv ((b_retr (L1 := []) (EN.x (n_sorted srt_ints hr (EX.l (EN.x (LCA.n (lp_no (own := [("mask", 2)]) (d := (dT dI)) (i_lst (EX.conv (x_call K_sums_of hr (a_C (x_ixT (n := 0) (g := fun q => q.2) (d' := (dL dI)) (x_call K_settled hr (a_C (x_var (d := dI) (a := n) 0) (a_C (x_var (d := (dT (dP dI dI))) (a := ties) 1) a_0))) (fun _ => rfl) (fun _ => rfl)) a_0)) (ca1 ((m_settled fu n ties).map fun u => u.2) _))) (fun _ => trivial) (fun _ _ _ _ _ mask_ => (y_name (s := .dat (dI mask_)) 2 sc_idle_sets.nd)) (fun _ _ _ _ _ mask_ M => (x_call K_set_of hr (a_C (x_var (d := dI) (a := mask_) 2) a_0)))) sc_idle_sets.nd (blkOk_by (own := [("mask", 2)]) (N := ["n", "ties", "mask"]) (sc := defScope s_idle_sets) (by decide +kernel))))) T.b_sorted)))) (by kernel_rfl))
noncomputable def m__law_state (script : List Int) : Option DS :=
  let seed : Int := 7; (foldO (fun (s1 : Int) (cell : Int) => some (let seed1 : Int := ((s1 * 31) + cell) % 1000003; seed1)) script seed).bind fun s2 => ((tupO script).bind fun u => mapO (fun (cell1 : Int) => some (if cell1 < 0 then -cell1 else cell1)) u).bind fun u1 => some ((u1, s2 + 1))
abbrev Kn__law_state (P : Program) (w : World) (K : PySem.W.Frag) (mg : Str → Option Value) (base : Heap) : Prop := Knows P w K mg base "_law_state" 1 ["script"] (spS K m__law_state)
theorem k__law_state {P : Program} {w : World} {K : PySem.W.Frag} {mg : Str → Option Value} {base : Heap} {f : Addr} {fd : FuncData} (F : Fun K "_law_state" "_law_state" s__law_state f fd) (hm : mg "_law_state" = some (.ref f)) (hb : Binds K fd ["script"] []) (T : Txt mg) : Kn__law_state P w K mg base :=
  knows_state F hm hb sc__law_state rfl (fun cdv A outer s0_ H E hr script => BX.conv ((b_step (s_set 1 sc__law_state.nd x_int) (fun seed => (b_step (vw := (fun s_ : Int => ([some (.scr script), some (.dat (dI s_)), none], []))) (s_fold (vw := (fun s_ : Int => ([some (.scr script), some (.dat (dI s_)), none], []))) (s0 := seed) (bs := [true, true, false]) PassesOwn.never rfl (i_scr (s_var (s := .scr script) 0 rfl)) (fun s1 cell => (g_name 2 sc__law_state.nd)) (fun s1 cell => (b_step (s_set 1 sc__law_state.nd (x_modL (x_t1 call_int1 c_int (x_op op_add o_add (x_mulL (x_var (d := dI) (a := s1) 1)) (x_var (d := dI) (a := cell) 2)) T.b_int (by decide +kernel)))) (fun seed1 => (b_end (b := seed1) [true, true, false] rfl)))) (fun _ => trivial) rfl) (fun s2 => (b_retLD (LCA.n (lp_no (own := [("cell", 2)]) (d := dI) (i_scrL (s_var (s := .scr script) 0 rfl)) (fun _ => trivial) (fun _ _ _ _ _ cell1 => (y_name (s := .dat (dI cell1)) 2 sc__law_state.nd)) (fun _ _ _ _ _ cell1 M => (x_b1 call_abs c_abs (x_var (d := dI) (a := cell1) 2) T.b_abs (by decide +kernel)))) sc__law_state.nd (blkOk_by (own := [("cell", 2)]) (N := ["script", "seed", "cell"]) (sc := defScope s__law_state) (by decide +kernel))) (fun p_ xs_ => (x_op op_add o_add (x_var (d := dI) (a := s2) 1) x_int)))))))) rfl)
noncomputable abbrev m__law_draw (many : Int) (w_ : DS) : Option (Int × DS) := drawM many w_
abbrev Kn__law_draw (P : Program) (w : World) (K : PySem.W.Frag) (mg : Str → Option Value) (base : Heap) : Prop := Knows P w K mg base "_law_draw" 1 ["state", "many"] (fun vs H Q E => ∃ i : Addr × Addr, spG K (encS (.ptr i.1) (encC dI enc0)) dI (fun w : DS => LD i.1 i.2 w) (fun (a : Int × Unit) w => m__law_draw a.1 w) vs H Q E)
theorem k__law_draw {P : Program} {w : World} {K : PySem.W.Frag} {mg : Str → Option Value} {base : Heap} {f : Addr} {fd : FuncData} (F : Fun K "_law_draw" "_law_draw" s__law_draw f fd) (hm : mg "_law_draw" = some (.ref f)) (hb : Binds K fd ["state", "many"] []) (T : Txt mg) : Kn__law_draw P w K mg base :=
  knows_fnW F hm hb sc__law_draw (fun _ _ => rfl) (fun cdv A outer s0_ H E hr i_ a w_ => by
    obtain ⟨s, c⟩ := i_
    obtain ⟨many, _⟩ := a
    exact BX.conv (b_step (s_setS 2 sc__law_draw.nd (s_ixO 0 rfl (s_var (s := .ptr s) 0 rfl) rfl)) (fun _ =>
      (b_step (vw := (fun cs : List Int => ([some (.ptr s), some (.dat (dI many)), some (.ptr c), none, none], [(s, .lst [.ptr c, .dat (dI w_.2)]), (c, odL dI cs)]))) (s_loop (vw := (fun cs : List Int => ([some (.ptr s), some (.dat (dI many)), some (.ptr c), none, none], [(s, .lst [.ptr c, .dat (dI w_.2)]), (c, odL dI cs)]))) (n := w_.1.length + 1) (s0 := w_.1) (bs := [true, true, true, true, true]) PassesOwn.never
        (fun cs => (WX.t (w_and (t_cmp op_gt o_gt (x_len (ES.q (d := dI) (xs := cs) (s_var (s := .ptr c) 2 rfl) (mem_at (j := 1) rfl)) T.b_len) x_int) (w_and1 (t_cmp op_eq o_eqI (x_ix (ES.q (d := dI) (xs := cs) (s_var (s := .ptr c) 2 rfl) (mem_at (j := 1) rfl)) x_int) x_int)))))
        (fun cs => (b_step (s_pop (d := dI) (xs := cs) 1 rfl (s_var (s := .ptr c) 2 rfl) x_int) (fun q => (b_end (b := q.2) [true, true, true, true, true] rfl)))) rfl)
      (fun cs => (b_ifF (t_cmp op_gt o_gt (x_len (ES.q (d := dI) (xs := cs) (s_var (s := .ptr c) 2 rfl) (mem_at (j := 1) rfl)) T.b_len) x_int)
        (b_step (s_set 3 sc__law_draw.nd (x_ix (ES.q (d := dI) (xs := cs) (s_var (s := .ptr c) 2 rfl) (mem_at (j := 1) rfl)) x_int)) (fun v => (b_step (s_setI (d := dI) (xs := cs) 1 rfl (s_var (s := .ptr c) 2 rfl) x_int (x_op op_fdivN o_fdiv (x_var (d := dI) (a := v) 3) (x_var (d := dI) (a := many) 1)))
          (fun cs2 => (b_ret (L1 := LD s c (cs2, w_.2)) (L2 := []) (fun z => (z, (cs2, w_.2))) (x_op op_modN o_fmod (x_t1 call_int1 c_int (x_var (d := dI) (a := v) 3) T.b_int (by decide +kernel)) (x_var (d := dI) (a := many) 1)) (fun _ => rfl))))))
        (b_step (s_set 4 sc__law_draw.nd (x_modL (x_t1 call_int1 c_int (x_op op_add o_add (x_mulL (ES.x (d := dI) (a := w_.2) (s_ixO 0 rfl (s_var (s := .ptr s) 0 rfl) rfl))) x_int) T.b_int (by decide +kernel)))) (fun mixed => (b_step (s_setIO (d := dI) 0 rfl (s_var (s := .ptr s) 0 rfl) (x_var (d := dI) (a := mixed) 4) rfl)
          (fun mixed2 => (b_ret (L1 := LD s c (cs, mixed2)) (L2 := []) (fun z => (z, (cs, mixed2))) (x_op op_modN o_fmod (x_t1 call_int1 c_int (x_divL (x_var (d := dI) (a := mixed) 4)) T.b_int (by decide +kernel)) (x_var (d := dI) (a := many) 1)) (fun _ => rfl))))))))))) (draw_eq many w_))
noncomputable abbrev m__law_pick {α : Type} (row : List α) (w_ : DS) : Option (α × DS) := pickM row w_
abbrev Kn__law_pick (P : Program) (w : World) (K : PySem.W.Frag) (mg : Str → Option Value) (base : Heap) {α : Type} (d : α → PyData) : Prop := Knows P w K mg base "_law_pick" 2 ["state", "row"] (fun vs H Q E => ∃ i : Addr × Addr, spG K (encS (.ptr i.1) (encC (dL d) enc0)) d (fun w : DS => LD i.1 i.2 w) (fun (a : List α × Unit) w => m__law_pick a.1 w) vs H Q E)
theorem k__law_pick {P : Program} {w : World} {K : PySem.W.Frag} {mg : Str → Option Value} {base : Heap} {f : Addr} {fd : FuncData} (F : Fun K "_law_pick" "_law_pick" s__law_pick f fd) (hm : mg "_law_pick" = some (.ref f)) (hb : Binds K fd ["state", "row"] []) (T : Txt mg) (K__law_draw : Kn__law_draw P w K mg base) {α : Type} (d : α → PyData) : Kn__law_pick P w K mg base d :=
  knows_fnW F hm hb sc__law_pick (fun _ _ => rfl) (fun cdv A outer s0_ H E hr i_ a w_ => by
    obtain ⟨s, c⟩ := i_
    obtain ⟨row, _⟩ := a
    exact BX.conv (b_retM (Lf := LD s c) (Lr := []) (m_ixL (x_var (d := dL d) (a := row) 1) (fun _ => (m_call (Lf := LD s c) (Lr := []) (fun _ _ => rfl) (K__law_draw.at_ (s, c)) hr (AX.m (Lf := fun w : DS => LD s c w ++ []) (w := w_) (a_S (s_var (s := .ptr s) 0 rfl) (a_C (x_len (EX.ql (x_var (d := dL d) (a := row) 1)) T.b_len) a_0))))))) rfl)
noncomputable def m__law_eqS (rec : PyData → PyData → Option Bool) (told due : PyData) : Option Bool :=
  if ((isListD due) || (isTupleD due)) then if ((!decide ((isListD told) = (isListD due))) || (!decide ((isTupleD told) = (isTupleD due)))) then some (false) else (((seqD told).map fun u => (u.length : Int)).bind fun u2 => ((seqD due).map fun u1 => (u1.length : Int)).bind fun u3 => some (!decide (u2 = u3))).bind fun u15 => if u15 then some (false) else ((((seqD due).map fun u4 => (u4.length : Int)).bind fun u5 => rngL 0 u5).bind fun u13 => filtO (fun (k : Int) => (((seqD told).bind fun u6 => atO u6 k).bind fun u10 => ((seqD due).bind fun u7 => atO u7 k).bind fun u11 => rec u10 u11).map fun u12 => !u12) (fun (k : Int) => some (k)) u13).bind fun u14 => some (decide (u14 = ([] : List Int))) else if (isNoneD due) then some (isNoneD told) else if (isStrD due) then if (isStrD told) then eqvO told due else some false else if (isBoolD due) then if (isBoolD told) then eqvO told due else some false else if (isIntD told) then if (!(isBoolD told)) then eqvO told due else some false else some false
abbrev Kq (P : Program) (w : World) (K : PySem.W.Frag) (mg : Str → Option Value) (base : Heap) (k : Nat) (rec : PyData → PyData → Option Bool) : Prop := Knows P w K mg base "_law_eq" k ["told", "due"] (spP K (encC dD (encC dD enc0)) dB (fun a : PyData × PyData × Unit => rec a.1 a.2.1))
theorem k__law_eqS {P : Program} {w : World} {K : PySem.W.Frag} {mg : Str → Option Value} {base : Heap} {f : Addr} {fd : FuncData} (F : Fun K "_law_eq" "_law_eq" s__law_eq f fd) (hm : mg "_law_eq" = some (.ref f)) (hb : Binds K fd ["told", "due"] []) (T : Txt mg) {k : Nat} {rec : PyData → PyData → Option Bool} (K_rec : Kq P w K mg base k rec) : Kq P w K mg base (k + 1) (m__law_eqS rec) :=
  knows_fn F hm hb sc__law_eq (fun _ => rfl) (fun cdv A outer s0_ H E hr a => by
    obtain ⟨told, due, _⟩ := a
    exact BX.conv ((b_ifF (WX.t (w_orP (t_val (x_isD ty_list (x_var (d := dD) (a := due) 1) T.b_isinstance T.b_list (by decide +kernel))) (w_or1 (t_val (x_isD ty_tuple (x_var (d := dD) (a := due) 1) T.b_isinstance T.b_tuple (by decide +kernel)))))) (b_ifF (WX.t (w_orP (t_cmp op_ne o_neB (x_isD ty_list (x_var (d := dD) (a := told) 0) T.b_isinstance T.b_list (by decide +kernel)) (x_isD ty_list (x_var (d := dD) (a := due) 1) T.b_isinstance T.b_list (by decide +kernel))) (w_or1 (t_cmp op_ne o_neB (x_isD ty_tuple (x_var (d := dD) (a := told) 0) T.b_isinstance T.b_tuple (by decide +kernel)) (x_isD ty_tuple (x_var (d := dD) (a := due) 1) T.b_isinstance T.b_tuple (by decide +kernel)))))) (b_retr (L1 := []) x_bool) (b_ifF (t_cmp op_ne o_neI (x_len (EX.qd (x_var (d := dD) (a := told) 0)) T.b_len) (x_len (EX.qd (x_var (d := dD) (a := due) 1)) T.b_len)) (b_retr (L1 := []) x_bool) (b_retr (L1 := []) (x_cmp (op_eqD hr.units) (o_eqD (lw_lst lw_int)) (EN.x (LCA.n (lp_if (own := [("k", 2)]) (d := dI) (i_rangeL (x_len (EX.qd (x_var (d := dD) (a := due) 1)) T.b_len) T.b_range) (fun _ => trivial) (fun _ _ _ _ _ k => (y_name (s := .dat (dI k)) 2 sc__law_eq.nd)) (fun _ _ _ _ _ k M => (t_not (t_val (EX.conv (x_call K_rec hr (a_C (x_ix (EX.qd (x_var (d := dD) (a := told) 0)) (x_var (d := dI) (a := k) 2)) (a_C (x_ix (EX.qd (x_var (d := dD) (a := due) 1)) (x_var (d := dI) (a := k) 2)) a_0)) (Nat.le_refl _)) (ca2 ((seqD told).bind fun u6 => atO u6 k) ((seqD due).bind fun u7 => atO u7 k) _))))) (fun _ _ _ _ _ k M => (x_var (d := dI) (a := k) 2))) sc__law_eq.nd (blkOk_by (own := [("k", 2)]) (N := ["told", "due", "k"]) (sc := defScope s__law_eq) (by decide +kernel)))) (EN.x (n_lh (d := dI) h_nil)))))) (b_ifF (t_cmp op_isN o_isND (x_var (d := dD) (a := due) 1) x_unit) (b_retr (L1 := []) (x_cmp op_isN o_isND (x_var (d := dD) (a := told) 0) x_unit)) (b_ifF (t_val (x_isD ty_str (x_var (d := dD) (a := due) 1) T.b_isinstance T.b_str (by decide +kernel))) (b_retr (L1 := []) (x_and (x_isD ty_str (x_var (d := dD) (a := told) 0) T.b_isinstance T.b_str (by decide +kernel)) (x_one (x_cmp (op_eqD hr.units) o_eqDD (x_var (d := dD) (a := told) 0) (x_var (d := dD) (a := due) 1))))) (b_ifF (t_val (x_isD ty_bool (x_var (d := dD) (a := due) 1) T.b_isinstance T.b_bool (by decide +kernel))) (b_retr (L1 := []) (x_and (x_isD ty_bool (x_var (d := dD) (a := told) 0) T.b_isinstance T.b_bool (by decide +kernel)) (x_one (x_cmp (op_eqD hr.units) o_eqDD (x_var (d := dD) (a := told) 0) (x_var (d := dD) (a := due) 1))))) (b_retr (L1 := []) (x_and (x_isD ty_int (x_var (d := dD) (a := told) 0) T.b_isinstance T.b_int (by decide +kernel)) (x_and (x_not (x_isD ty_bool (x_var (d := dD) (a := told) 0) T.b_isinstance T.b_bool (by decide +kernel))) (x_one (x_cmp (op_eqD hr.units) o_eqDD (x_var (d := dD) (a := told) 0) (x_var (d := dD) (a := due) 1))))))))))) (by kernel_rfl))
noncomputable def eqN : Nat → PyData → PyData → Option Bool
  | 0 => fun _ _ => none
  | n + 1 => m__law_eqS (eqN n)
theorem k__law_eqN {P : Program} {w : World} {K : PySem.W.Frag} {mg : Str → Option Value} {base : Heap} {f : Addr} {fd : FuncData} (F : Fun K "_law_eq" "_law_eq" s__law_eq f fd) (hm : mg "_law_eq" = some (.ref f)) (hb : Binds K fd ["told", "due"] []) (T : Txt mg) : ∀ n, Kq P w K mg base (n + 1) (eqN n)
  | 0 => knows_fn F hm hb sc__law_eq (fun _ => rfl) (fun cdv A outer s0_ H E hr a => b_never)
  | n + 1 => k__law_eqS F hm hb T (k__law_eqN F hm hb T n)
noncomputable abbrev m__law_eq (told due : PyData) : Option Bool := eqN 7 told due
abbrev Kn__law_eq (P : Program) (w : World) (K : PySem.W.Frag) (mg : Str → Option Value) (base : Heap) : Prop := Kq P w K mg base 8 m__law_eq
theorem k__law_eq {P : Program} {w : World} {K : PySem.W.Frag} {mg : Str → Option Value} {base : Heap} {f : Addr} {fd : FuncData} (F : Fun K "_law_eq" "_law_eq" s__law_eq f fd) (hm : mg "_law_eq" = some (.ref f)) (hb : Binds K fd ["told", "due"] []) (T : Txt mg) : Kn__law_eq P w K mg base := k__law_eqN F hm hb T 7
noncomputable def m__law_web (n : Int) (share : Int) (w_ : DS) : Option ((List (Int × Int)) × DS) :=
  let told : List (Int × Int) := ([] : List (Int × Int)); ((rngO 0 n).bind fun u3 => foldO (fun (s1 : (List (Int × Int)) × DS) (a1 : Int) => (((rngL (a1 + 1) n).bind fun u1 => filtW (fun (b : Int) (w1 : DS) => (m__law_draw share w1).bind fun u => some (decide (u.1 = 0), u.2)) (fun (b : Int) (w1 : DS) => some ((a1, b), w1)) u1 s1.2).bind fun u2 => (catO s1.1 u2.1).map fun z => (z, u2.2)).bind fun told1 => some ((told1.1, told1.2))) u3 (told, w_)).bind fun s2 => (tupO s2.1).map fun u4 => (u4, s2.2)
abbrev Kn__law_web (P : Program) (w : World) (K : PySem.W.Frag) (mg : Str → Option Value) (base : Heap) : Prop := Knows P w K mg base "_law_web" 2 ["state", "n", "share"] (fun vs H Q E => ∃ i : Addr × Addr, spG K (encS (.ptr i.1) (encC dI (encC dI enc0))) (dT (dP dI dI)) (fun w : DS => LD i.1 i.2 w) (fun (a : Int × Int × Unit) w => m__law_web a.1 a.2.1 w) vs H Q E)
theorem k__law_web {P : Program} {w : World} {K : PySem.W.Frag} {mg : Str → Option Value} {base : Heap} {f : Addr} {fd : FuncData} (F : Fun K "_law_web" "_law_web" s__law_web f fd) (hm : mg "_law_web" = some (.ref f)) (hb : Binds K fd ["state", "n", "share"] []) (T : Txt mg) (K__law_draw : Kn__law_draw P w K mg base) : Kn__law_web P w K mg base :=
  knows_fnW F hm hb sc__law_web (fun _ _ => rfl) (fun cdv A outer s0_ H E hr i_ a w_ => by
    obtain ⟨s, c⟩ := i_
    obtain ⟨n, share, _⟩ := a
    exact BX.conv ((b_step (s_set 3 sc__law_web.nd (EN.x (n_lh (d := (dP dI dI)) h_nil))) (fun told => (b_step (vw := (fun s_ : (List (Int × Int)) × DS => ([some (.ptr s), some (.dat (dI n)), some (.dat (dI share)), some (.dat ((dL (dP dI dI)) s_.1)), none, none], LD s c s_.2 ++ []))) (s_fold (vw := (fun s_ : (List (Int × Int)) × DS => ([some (.ptr s), some (.dat (dI n)), some (.dat (dI share)), some (.dat ((dL (dP dI dI)) s_.1)), none, none], LD s c s_.2 ++ []))) (s0 := (told, w_)) (bs := [true, true, true, true, false, false]) PassesOwn.never rfl (i_range (x_var (d := dI) (a := n) 1) T.b_range) (fun s1 a1 => (g_name 4 sc__law_web.nd)) (fun s1 a1 => (b_step (s_setM (Lf := fun w : DS => LD s c w ++ []) (w := s1.2) 3 sc__law_web.nd (m_cat (x_var (d := (dL (dP dI dI))) (a := s1.1) 3) (LCA.m (lm_if (own := [("b", 5)]) (d := (dP dI dI)) (Lf := fun w : DS => LD s c w ++ []) (w0 := s1.2) (i_range2L (x_op op_add o_add (x_var (d := dI) (a := a1) 4) x_int) (x_var (d := dI) (a := n) 1) T.b_range) (fun _ _ => trivial) (fun _ _ _ _ _ b => (y_name (s := .dat (dI b)) 5 sc__law_web.nd)) (fun _ _ _ _ _ b w1 M => (tm_cmp op_eq o_eqI (m_call (Lf := LD s c) (Lr := ([] ++ M)) (fun _ _ => rfl) (K__law_draw.at_ (s, c)) hr (AX.m (Lf := fun w : DS => LD s c w ++ [] ++ M) (w := w1) (a_S (s_var (s := .ptr s) 0 rfl) (a_C (x_var (d := dI) (a := share) 2) a_0)))) (fun a_u w_u => (EX.m (Lf := fun w : DS => LD s c w ++ [] ++ M) (w := w_u) x_int)))) (fun _ _ _ _ _ b w1 M => (EX.m (Lf := fun w : DS => LD s c w ++ [] ++ M) (w := w1) (x_pair (x_var (d := dI) (a := a1) 4) (x_var (d := dI) (a := b) 5))))) sc__law_web.nd (blkOk_by (own := [("b", 5)]) (N := ["state", "n", "share", "told", "a", "b"]) (sc := defScope s__law_web) (by decide +kernel))))) (fun told1 => (b_end (b := (told1.1, told1.2)) [true, true, true, true, false, false] rfl)))) (fun _ => trivial) rfl) (fun s2 => (b_retM (Lf := LD s c) (Lr := ([])) (EX.m (Lf := fun w : DS => LD s c w ++ []) (w := s2.2) (x_tuple (EX.ql (x_var (d := (dL (dP dI dI))) (a := s2.1) 3)) T.b_tuple)))))))) (by kernel_rfl))
noncomputable def m__law_path (n : Int) : Option (List (Int × Int)) :=
  ((rngL 0 (n - 1)).bind fun u => mapO (fun (i : Int) => some ((i, i + 1))) u).bind fun u1 => tupO u1
abbrev Kn__law_path (P : Program) (w : World) (K : PySem.W.Frag) (mg : Str → Option Value) (base : Heap) : Prop := Knows P w K mg base "_law_path" 1 ["n"] (spP K (encC dI enc0) (dT (dP dI dI)) (fun a : Int × Unit => m__law_path a.1))
theorem k__law_path {P : Program} {w : World} {K : PySem.W.Frag} {mg : Str → Option Value} {base : Heap} {f : Addr} {fd : FuncData} (F : Fun K "_law_path" "_law_path" s__law_path f fd) (hm : mg "_law_path" = some (.ref f)) (hb : Binds K fd ["n"] []) (T : Txt mg)  : Kn__law_path P w K mg base :=
  knows_fn F hm hb sc__law_path (fun _ => rfl) (fun cdv A outer s0_ H E hr a => by
    obtain ⟨n, _⟩ := a
    exact BX.conv ((b_retr (L1 := []) (x_tuple (EN.q (LCA.n (lp_no (own := [("i", 1)]) (d := (dP dI dI)) (i_rangeL (x_op op_sub o_sub (x_var (d := dI) (a := n) 0) x_int) T.b_range) (fun _ => trivial) (fun _ _ _ _ _ i => (y_name (s := .dat (dI i)) 1 sc__law_path.nd)) (fun _ _ _ _ _ i M => (x_pair (x_var (d := dI) (a := i) 1) (x_op op_add o_add (x_var (d := dI) (a := i) 1) x_int)))) sc__law_path.nd (blkOk_by (own := [("i", 1)]) (N := ["n", "i"]) (sc := defScope s__law_path) (by decide +kernel)))) T.b_tuple))) (by kernel_rfl))
noncomputable def m__law_ring (n : Int) : Option (List (Int × Int)) :=
  ((((rngL 0 (n - 1)).bind fun u => mapO (fun (i : Int) => some ((i, i + 1))) u).bind fun u1 => catO u1 [(0, n - 1)]).map fun u2 => u2.mergeSort leP).bind fun u3 => tupO u3
abbrev Kn__law_ring (P : Program) (w : World) (K : PySem.W.Frag) (mg : Str → Option Value) (base : Heap) : Prop := Knows P w K mg base "_law_ring" 1 ["n"] (spP K (encC dI enc0) (dT (dP dI dI)) (fun a : Int × Unit => m__law_ring a.1))
theorem k__law_ring {P : Program} {w : World} {K : PySem.W.Frag} {mg : Str → Option Value} {base : Heap} {f : Addr} {fd : FuncData} (F : Fun K "_law_ring" "_law_ring" s__law_ring f fd) (hm : mg "_law_ring" = some (.ref f)) (hb : Binds K fd ["n"] []) (T : Txt mg)  : Kn__law_ring P w K mg base :=
  knows_fn F hm hb sc__law_ring (fun _ => rfl) (fun cdv A outer s0_ H E hr a => by
    obtain ⟨n, _⟩ := a
    exact BX.conv ((b_retr (L1 := []) (x_tuple (EX.ql (EN.x (n_sorted srt_pair hr (EX.l (EN.x (n_cat (EX.l (EN.x (LCA.n (lp_no (own := [("i", 1)]) (d := (dP dI dI)) (i_rangeL (x_op op_sub o_sub (x_var (d := dI) (a := n) 0) x_int) T.b_range) (fun _ => trivial) (fun _ _ _ _ _ i => (y_name (s := .dat (dI i)) 1 sc__law_ring.nd)) (fun _ _ _ _ _ i M => (x_pair (x_var (d := dI) (a := i) 1) (x_op op_add o_add (x_var (d := dI) (a := i) 1) x_int)))) sc__law_ring.nd (blkOk_by (own := [("i", 1)]) (N := ["n", "i"]) (sc := defScope s__law_ring) (by decide +kernel))))) (EX.l (EN.x (n_lh (d := (dP dI dI)) (h_cons (x_pair x_int (x_op op_sub o_sub (x_var (d := dI) (a := n) 0) x_int)) h_nil))))))) T.b_sorted))) T.b_tuple))) (by kernel_rfl))
noncomputable def m__law_whole (n : Int) : Option (List (Int × Int)) :=
  let told : List (Int × Int) := ([] : List (Int × Int)); ((rngO 0 n).bind fun u2 => foldO (fun (s1 : List (Int × Int)) (a1 : Int) => (((rngL (a1 + 1) n).bind fun u => mapO (fun (b : Int) => some ((a1, b))) u).bind fun u1 => catO s1 u1).bind fun told1 => some (told1)) u2 told).bind fun s2 => tupO s2
abbrev Kn__law_whole (P : Program) (w : World) (K : PySem.W.Frag) (mg : Str → Option Value) (base : Heap) : Prop := Knows P w K mg base "_law_whole" 1 ["n"] (spP K (encC dI enc0) (dT (dP dI dI)) (fun a : Int × Unit => m__law_whole a.1))
theorem k__law_whole {P : Program} {w : World} {K : PySem.W.Frag} {mg : Str → Option Value} {base : Heap} {f : Addr} {fd : FuncData} (F : Fun K "_law_whole" "_law_whole" s__law_whole f fd) (hm : mg "_law_whole" = some (.ref f)) (hb : Binds K fd ["n"] []) (T : Txt mg)  : Kn__law_whole P w K mg base :=
  knows_fn F hm hb sc__law_whole (fun _ => rfl) (fun cdv A outer s0_ H E hr a => by
    obtain ⟨n, _⟩ := a
    exact BX.conv ((b_step (s_set 1 sc__law_whole.nd (EN.x (n_lh (d := (dP dI dI)) h_nil))) (fun told => (b_step (vw := (fun s_ : List (Int × Int) => ([some (.dat (dI n)), some (.dat ((dL (dP dI dI)) s_)), none, none], []))) (s_fold (vw := (fun s_ : List (Int × Int) => ([some (.dat (dI n)), some (.dat ((dL (dP dI dI)) s_)), none, none], []))) (s0 := told) (bs := [true, true, false, false]) PassesOwn.never rfl (i_range (x_var (d := dI) (a := n) 0) T.b_range) (fun s1 a1 => (g_name 2 sc__law_whole.nd)) (fun s1 a1 => (b_step (s_set 1 sc__law_whole.nd (EN.x (n_cat (EX.l (x_var (d := (dL (dP dI dI))) (a := s1) 1)) (EX.l (EN.x (LCA.n (lp_no (own := [("b", 3)]) (d := (dP dI dI)) (i_range2L (x_op op_add o_add (x_var (d := dI) (a := a1) 2) x_int) (x_var (d := dI) (a := n) 0) T.b_range) (fun _ => trivial) (fun _ _ _ _ _ b => (y_name (s := .dat (dI b)) 3 sc__law_whole.nd)) (fun _ _ _ _ _ b M => (x_pair (x_var (d := dI) (a := a1) 2) (x_var (d := dI) (a := b) 3)))) sc__law_whole.nd (blkOk_by (own := [("b", 3)]) (N := ["n", "told", "a", "b"]) (sc := defScope s__law_whole) (by decide +kernel)))))))) (fun told1 => (b_end (b := told1) [true, true, false, false] rfl)))) (fun _ => trivial) rfl) (fun s2 => (b_retr (L1 := []) (x_tuple (EX.ql (x_var (d := (dL (dP dI dI))) (a := s2) 1)) T.b_tuple))))))) (by kernel_rfl))
noncomputable def m__law_board (rows : Int) (columns : Int) : Option (List (Int × Int)) :=
  let told : List (Int × Int) := ([] : List (Int × Int)); ((rngO 0 columns).bind fun u15 => foldO (fun (s1 : List (Int × Int)) (x : Int) => ((rngO 0 rows).bind fun u14 => foldO (fun (s2 : List (Int × Int)) (y : Int) => (((if (decide ((y + 1) < rows)) then (((mulO x rows).bind fun u => some (u + y)).bind fun u3 => (((mulO x rows).bind fun u1 => some (u1 + y)).bind fun u2 => some (u2 + 1)).bind fun u4 => some ((u3, u4))).bind fun u5 => some ([u5]) else some (([] : List (Int × Int)))).bind fun u6 => catO s2 u6).bind fun u12 => (if (decide ((x + 1) < columns)) then (((mulO x rows).bind fun u7 => some (u7 + y)).bind fun u9 => ((mulO (x + 1) rows).bind fun u8 => some (u8 + y)).bind fun u10 => some ((u9, u10))).bind fun u11 => some ([u11]) else some (([] : List (Int × Int)))).bind fun u13 => catO u12 u13).bind fun told1 => some (told1)) u14 s1).bind fun s3 => some (s3)) u15 told).bind fun s4 => tupO (s4.mergeSort leP)
abbrev Kn__law_board (P : Program) (w : World) (K : PySem.W.Frag) (mg : Str → Option Value) (base : Heap) : Prop := Knows P w K mg base "_law_board" 1 ["rows", "columns"] (spP K (encC dI (encC dI enc0)) (dT (dP dI dI)) (fun a : Int × Int × Unit => m__law_board a.1 a.2.1))
theorem k__law_board {P : Program} {w : World} {K : PySem.W.Frag} {mg : Str → Option Value} {base : Heap} {f : Addr} {fd : FuncData} (F : Fun K "_law_board" "_law_board" s__law_board f fd) (hm : mg "_law_board" = some (.ref f)) (hb : Binds K fd ["rows", "columns"] []) (T : Txt mg)  : Kn__law_board P w K mg base :=
  knows_fn F hm hb sc__law_board (fun _ => rfl) (fun cdv A outer s0_ H E hr a => by
    obtain ⟨rows, columns, _⟩ := a
    exact BX.conv ((b_step (s_set 2 sc__law_board.nd (EN.x (n_lh (d := (dP dI dI)) h_nil))) (fun told => (b_step (vw := (fun s_ : List (Int × Int) => ([some (.dat (dI rows)), some (.dat (dI columns)), some (.dat ((dL (dP dI dI)) s_)), none, none], []))) (s_fold (vw := (fun s_ : List (Int × Int) => ([some (.dat (dI rows)), some (.dat (dI columns)), some (.dat ((dL (dP dI dI)) s_)), none, none], []))) (s0 := told) (bs := [true, true, true, false, false]) PassesOwn.never rfl (i_range (x_var (d := dI) (a := columns) 1) T.b_range) (fun s1 x => (g_name 3 sc__law_board.nd)) (fun s1 x => (b_step (vw := (fun s_ : List (Int × Int) => ([some (.dat (dI rows)), some (.dat (dI columns)), some (.dat ((dL (dP dI dI)) s_)), some (.dat (dI x)), none], []))) (s_fold (vw := (fun s_ : List (Int × Int) => ([some (.dat (dI rows)), some (.dat (dI columns)), some (.dat ((dL (dP dI dI)) s_)), some (.dat (dI x)), none], []))) (s0 := s1) (bs := [true, true, true, true, false]) PassesOwn.never rfl (i_range (x_var (d := dI) (a := rows) 0) T.b_range) (fun s2 y => (g_name 4 sc__law_board.nd)) (fun s2 y => (b_step (s_set 2 sc__law_board.nd (EN.x (n_cat (EX.l (EN.x (n_cat (EX.l (x_var (d := (dL (dP dI dI))) (a := s2) 2)) (EX.l (x_if (t_cmp op_lt o_lt (x_op op_add o_add (x_var (d := dI) (a := y) 4) x_int) (x_var (d := dI) (a := rows) 0)) (EN.x (EN.conv (n_lh (d := (dP dI dI)) (h_cons (x_pair (x_op op_add o_add (x_op op_mul o_mul (x_var (d := dI) (a := x) 3) (x_var (d := dI) (a := rows) 0)) (x_var (d := dI) (a := y) 4)) (x_op op_add o_add (x_op op_add o_add (x_op op_mul o_mul (x_var (d := dI) (a := x) 3) (x_var (d := dI) (a := rows) 0)) (x_var (d := dI) (a := y) 4)) x_int)) h_nil)) (cl1 (((mulO x rows).bind fun u => some (u + y)).bind fun u3 => (((mulO x rows).bind fun u1 => some (u1 + y)).bind fun u2 => some (u2 + 1)).bind fun u4 => some ((u3, u4)))))) (EN.x (n_lh (d := (dP dI dI)) h_nil))))))) (EX.l (x_if (t_cmp op_lt o_lt (x_op op_add o_add (x_var (d := dI) (a := x) 3) x_int) (x_var (d := dI) (a := columns) 1)) (EN.x (EN.conv (n_lh (d := (dP dI dI)) (h_cons (x_pair (x_op op_add o_add (x_op op_mul o_mul (x_var (d := dI) (a := x) 3) (x_var (d := dI) (a := rows) 0)) (x_var (d := dI) (a := y) 4)) (x_op op_add o_add (x_op op_mul o_mul (x_op op_add o_add (x_var (d := dI) (a := x) 3) x_int) (x_var (d := dI) (a := rows) 0)) (x_var (d := dI) (a := y) 4))) h_nil)) (cl1 (((mulO x rows).bind fun u7 => some (u7 + y)).bind fun u9 => ((mulO (x + 1) rows).bind fun u8 => some (u8 + y)).bind fun u10 => some ((u9, u10)))))) (EN.x (n_lh (d := (dP dI dI)) h_nil))))))) (fun told1 => (b_end (b := told1) [true, true, true, true, false] rfl)))) (fun _ => trivial) rfl) (fun s3 => (b_end (b := s3) [true, true, true, false, false] rfl)))) (fun _ => trivial) rfl) (fun s4 => (b_retr (L1 := []) (x_tuple (EX.ql (EN.x (n_sorted srt_pair hr (EX.l (x_var (d := (dL (dP dI dI))) (a := s4) 2)) T.b_sorted))) T.b_tuple))))))) (by kernel_rfl))
noncomputable def m_law (fu : Nat) (script : List Int) : Option Bool :=
  (m__law_state script).bind fun w1 => ((m__law_draw 60 w1).bind fun u1 => some (1 + u1.1, u1.2)).bind fun n => ((((m__law_pick [2, 5, 12] n.2).bind fun u3 => some ((u3.1, ()), u3.2)).bind fun u4 => some ((n.1, u4.1), u4.2)).bind fun u5 => m__law_web u5.1.1 u5.1.2.1 u5.2).bind fun ties => (rngL 0 n.1).bind fun every => (m_any_presses fu n.1 ties.1 every).bind fun told => (if told.isNone then some true else (((told).bind fun u6 => m_picture_of fu n.1 ties.1 u6).bind fun u7 => some (!decide (u7 = every))).bind fun u9 => if u9 then some true else (m_can_make fu n.1 ties.1 every).map fun u8 => !u8).bind fun u85 => if u85 then some (false) else ((rngL 0 n.1).bind fun u11 => filtW (fun (x : Int) (w2 : DS) => (m__law_draw 2 w2).bind fun u10 => some (decide (u10.1 = 0), u10.2)) (fun (x : Int) (w2 : DS) => some (x, w2)) u11 ties.2).bind fun some_ => (m_picture_of fu n.1 ties.1 some_.1).bind fun picture => (m_any_presses fu n.1 ties.1 picture).bind fun again => (((m_can_make fu n.1 ties.1 picture).map fun u12 => !u12).bind fun u15 => if u15 then some true else if again.isNone then some true else ((again).bind fun u13 => m_picture_of fu n.1 ties.1 u13).bind fun u14 => some (!decide (u14 = picture))).bind fun u84 => if u84 then some (false) else (((rngL 0 n.1).bind fun u18 => filtO (fun (x1 : Int) => ((again).bind fun u16 => some (decide (x1 ∈ u16))).bind fun u17 => some (!decide ((decide (x1 ∈ some_.1)) = u17))) (fun (x1 : Int) => some (x1)) u18).bind fun u19 => tupO u19).bind fun both => ((m_picture_of fu n.1 ties.1 both).bind fun u20 => some (!decide (u20 = []))).bind fun u83 => if u83 then some (false) else ((rngL 0 n.1).bind fun u22 => filtW (fun (x2 : Int) (w3 : DS) => (m__law_draw 3 w3).bind fun u21 => some (decide (u21.1 = 0), u21.2)) (fun (x2 : Int) (w3 : DS) => some (x2, w3)) u22 some_.2).bind fun other => (((rngL 0 n.1).bind fun u23 => filtO (fun (x3 : Int) => some (!decide ((decide (x3 ∈ some_.1)) = (decide (x3 ∈ other.1))))) (fun (x3 : Int) => some (x3)) u23).bind fun u24 => tupO u24).bind fun joint => ((m_picture_of fu n.1 ties.1 some_.1).bind fun u25 => (m_picture_of fu n.1 ties.1 other.1).bind fun u26 => some ((u25, u26))).bind fun q => ((m_picture_of fu n.1 ties.1 joint).bind fun u29 => (((rngL 0 n.1).bind fun u27 => filtO (fun (x4 : Int) => some (!decide ((decide (x4 ∈ q.1)) = (decide (x4 ∈ q.2))))) (fun (x4 : Int) => some (x4)) u27).bind fun u28 => tupO u28).bind fun u30 => some (!decide (u29 = u30))).bind fun u82 => if u82 then some (false) else (m_slack fu n.1 ties.1).bind fun d => (if (decide (d < 7)) then (m_idle_sets fu n.1 ties.1).bind fun idle => (((shlO 1 d).bind fun u31 => some (!decide ((idle.length : Int) = u31))).bind fun u36 => if u36 then some true else ((tsetO idle).bind fun u32 => some (!decide (idle = u32))).bind fun u35 => if u35 then some true else (filtO (fun (row : List Int) => (m_picture_of fu n.1 ties.1 row).bind fun u33 => some (!decide (u33 = []))) (fun (row : List Int) => some (row)) idle).bind fun u34 => some (!decide (u34 = ([] : List (List Int))))).bind fun u52 => if u52 then some (Fx.ex false) else ((filtO (fun (row1 : List Int) => ((((filtO (fun (x5 : Int) => some (decide (x5 ∈ picture))) (fun (x5 : Int) => some (x5)) row1).map fun u37 => (u37.length : Int)).bind fun i => some i).map fun u38 => u38 % 2).bind fun u39 => some (decide (u39 = 1))) (fun (row1 : List Int) => some (row1)) idle).bind fun u40 => some (!decide (u40 = ([] : List (List Int))))).bind fun u51 => if u51 then some (Fx.ex false) else ((rngL 0 n.1).bind fun u42 => filtW (fun (x6 : Int) (w4 : DS) => (m__law_draw 2 w4).bind fun u41 => some (decide (u41.1 = 0), u41.2)) (fun (x6 : Int) (w4 : DS) => some (x6, w4)) u42 other.2).bind fun drawn => ((filtO (fun (row2 : List Int) => ((((filtO (fun (x7 : Int) => some (decide (x7 ∈ drawn.1))) (fun (x7 : Int) => some (x7)) row2).map fun u43 => (u43.length : Int)).bind fun i => some i).map fun u44 => u44 % 2).bind fun u45 => some (decide (u45 = 1))) (fun (row2 : List Int) => some (row2)) idle).bind fun u46 => some (decide (u46 = ([] : List (List Int))))).bind fun right => ((((m_can_make fu n.1 ties.1 drawn.1).map fun u47 => dB u47).bind fun u48 => m__law_eq u48 (dB right)).map fun u49 => !u49).bind fun u50 => if u50 then some ((Fx.ex false)) else some ((Fx.go drawn.2)) else some ((Fx.go other.2))).bind (Fx.on id fun s1 => ((m__law_draw 60 s1).bind fun u54 => some (1 + u54.1, u54.2)).bind fun n1 => ((((((m__law_path n1.1).bind fun u55 => m_slack fu n1.1 u55).map fun u56 => dI u56).bind fun u58 => (((some (decide ((n1.1 % 3) = 2))).bind fun i => some (if i then (1 : Int) else 0)).map fun u57 => dI u57).bind fun u59 => m__law_eq u58 u59).map fun u60 => !u60).bind fun u65 => if u65 then some true else if (decide (n1.1 > 2)) then ((((m__law_ring n1.1).bind fun u61 => m_slack fu n1.1 u61).map fun u62 => dI u62).bind fun u63 => m__law_eq u63 (if decide ((n1.1 % 3) = 0) then dI 2 else dI 0)).map fun u64 => !u64 else some false).bind fun u81 => if u81 then some (false) else ((m__law_draw 12 n1.2).bind fun u67 => some (1 + u67.1, u67.2)).bind fun m => (((((m__law_whole m.1).bind fun u68 => m_slack fu m.1 u68).map fun u69 => dI u69).bind fun u70 => m__law_eq u70 (dI (m.1 - 1))).map fun u71 => !u71).bind fun u80 => if u80 then some (false) else ((m__law_draw 7 m.2).bind fun u73 => some (1 + u73.1, u73.2)).bind fun side => (((mulO side.1 side.1).bind fun u74 => (m__law_board side.1 side.1).bind fun u75 => m_slack fu u74 u75).map fun u76 => dI u76).bind fun u78 => ((atO [0, 0, 0, 0, 4, 2, 0, 0] side.1).map fun u77 => dI u77).bind fun u79 => m__law_eq u78 u79)
abbrev Kn_law (P : Program) (w : World) (K : PySem.W.Frag) (mg : Str → Option Value) (base : Heap) (fu : Nat) : Prop := Knows P w K mg base "law" 9 ["script"] (spP K (encR enc0) dB (fun a : (List Int) × Unit => m_law fu a.1))
theorem k_law (fu : Nat) {P : Program} {w : World} {K : PySem.W.Frag} {mg : Str → Option Value} {base : Heap} {f : Addr} {fd : FuncData} (F : Fun K "law" "law" s_law f fd) (T : Txt mg) (K__law_board : Kn__law_board P w K mg base) (K__law_draw : Kn__law_draw P w K mg base) (K__law_eq : Kn__law_eq P w K mg base) (K__law_path : Kn__law_path P w K mg base) (K__law_pick : ∀ {α : Type} (d : α → PyData), Kn__law_pick P w K mg base d) (K__law_ring : Kn__law_ring P w K mg base) (K__law_state : Kn__law_state P w K mg base) (K__law_web : Kn__law_web P w K mg base) (K__law_whole : Kn__law_whole P w K mg base) (K_any_presses : Kn_any_presses P w K mg base fu) (K_can_make : Kn_can_make P w K mg base fu) (K_idle_sets : Kn_idle_sets P w K mg base fu) (K_picture_of : Kn_picture_of P w K mg base fu) (K_slack : Kn_slack P w K mg base fu) : FnOk P w K mg base CX0 9 f fd ["script"] (spP K (encR enc0) dB (fun a : List Int × Unit => m_law fu a.1)) :=
  fnok_fn F sc_law (fun _ => rfl) (fun cdv A outer s0_ H E hr a => by
    obtain ⟨script, _⟩ := a
    exact BX.conv ((b_state 1 sc_law.nd K__law_state hr (s_var (s := .scr script) 0 rfl) (fun s c w1 => (b_step (vw := (fun n : (Int) × DS => ([some (.scr script), some (.ptr s), some (.dat (dI n.1)), none, none, none, none, none, none, none, none, none, none, none, none, none, none, none, none, none, none, none], LD s c n.2 ++ []))) (s_setM (Lf := fun w : DS => LD s c w ++ []) (w := w1) 2 sc_law.nd (m_op op_add o_add (EX.m (Lf := fun w : DS => LD s c w ++ []) (w := w1) x_int) (fun a_u w_u => (m_call (Lf := LD s c) (Lr := ([])) (fun _ _ => rfl) (K__law_draw.at_ (s, c)) hr (AX.m (Lf := fun w : DS => LD s c w ++ []) (w := w_u) (a_S (s_var (s := .ptr s) 1 rfl) (a_C x_int a_0))))))) (fun n => (b_step (vw := (fun ties : (List (Int × Int)) × DS => ([some (.scr script), some (.ptr s), some (.dat (dI n.1)), some (.dat ((dT (dP dI dI)) ties.1)), none, none, none, none, none, none, none, none, none, none, none, none, none, none, none, none, none, none], LD s c ties.2 ++ []))) (s_setM (Lf := fun w : DS => LD s c w ++ []) (w := n.2) 3 sc_law.nd (m_call (Lf := LD s c) (Lr := ([])) (fun _ _ => rfl) (K__law_web.at_ (s, c)) hr (am_S (s_var (s := .ptr s) 1 rfl) (am_C (EX.m (Lf := fun w : DS => LD s c w ++ []) (w := n.2) (x_var (d := dI) (a := n.1) 2)) (fun a_u2 w_u2 => (am_C (m_call (Lf := LD s c) (Lr := ([])) (fun _ _ => rfl) ((K__law_pick (dI)).at_ (s, c)) hr (AX.m (Lf := fun w : DS => LD s c w ++ []) (w := w_u2) (a_S (s_var (s := .ptr s) 1 rfl) (a_C (EN.x (n_lh (d := dI) (h_cons x_int (h_cons x_int (h_cons x_int h_nil))))) a_0)))) (fun a_u3 w_u3 => am_0))))))) (fun ties => (b_step (vw := (fun every : List Int => ([some (.scr script), some (.ptr s), some (.dat (dI n.1)), some (.dat ((dT (dP dI dI)) ties.1)), some (.dat ((dT dI) every)), none, none, none, none, none, none, none, none, none, none, none, none, none, none, none, none, none], LD s c ties.2 ++ []))) (s_set 4 sc_law.nd (x_tupRg rfl (x_var (d := dI) (a := n.1) 2) T.b_tuple T.b_range)) (fun every => (b_step (vw := (fun told : Option (List Int) => ([some (.scr script), some (.ptr s), some (.dat (dI n.1)), some (.dat ((dT (dP dI dI)) ties.1)), some (.dat ((dT dI) every)), some (.dat ((dO (dT dI)) told)), none, none, none, none, none, none, none, none, none, none, none, none, none, none, none, none], LD s c ties.2 ++ []))) (s_set 5 sc_law.nd (x_call K_any_presses hr (a_C (x_var (d := dI) (a := n.1) 2) (a_C (x_var (d := (dT (dP dI dI))) (a := ties.1) 3) (a_C (x_var (d := (dT dI)) (a := every) 4) a_0))))) (fun told => (b_ifF (WX.t (w_or (t_cmp op_isN (o_isN (d := (dT dI)) (by intro a h; cases h)) (x_var (d := (dO (dT dI))) (a := told) 5) x_unit) (w_or (t_cmp (op_neD hr.units) (o_neD (lw_tup lw_int)) (EX.conv (x_call K_picture_of hr (a_C (x_var (d := dI) (a := n.1) 2) (a_C (x_var (d := (dT (dP dI dI))) (a := ties.1) 3) (a_C (x_some (x_var (d := (dO (dT dI))) (a := told) 5)) a_0)))) (ca3 (some (n.1)) (some (ties.1)) (told) _)) (x_var (d := (dT dI)) (a := every) 4)) (w_or1 (t_not (t_val (x_call K_can_make hr (a_C (x_var (d := dI) (a := n.1) 2) (a_C (x_var (d := (dT (dP dI dI))) (a := ties.1) 3) (a_C (x_var (d := (dT dI)) (a := every) 4) a_0)))))))))) (b_retr (L1 := []) x_bool) (b_step (vw := (fun some_ : (List Int) × DS => ([some (.scr script), some (.ptr s), some (.dat (dI n.1)), some (.dat ((dT (dP dI dI)) ties.1)), some (.dat ((dT dI) every)), some (.dat ((dO (dT dI)) told)), some (.dat ((dT dI) some_.1)), none, none, none, none, none, none, none, none, none, none, none, none, none, none, none], LD s c some_.2 ++ []))) (s_setM (Lf := fun w : DS => LD s c w ++ []) (w := ties.2) 6 sc_law.nd (m_tuple (LCA.m (lm_if (own := [("x", 20)]) (d := dI) (Lf := fun w : DS => LD s c w ++ []) (w0 := ties.2) (i_rangeL (x_var (d := dI) (a := n.1) 2) T.b_range) (fun _ _ => trivial) (fun _ _ _ _ _ x => (y_name (s := .dat (dI x)) 20 sc_law.nd)) (fun _ _ _ _ _ x w2 M => (tm_cmp op_eq o_eqI (m_call (Lf := LD s c) (Lr := ([] ++ M)) (fun _ _ => rfl) (K__law_draw.at_ (s, c)) hr (AX.m (Lf := fun w : DS => LD s c w ++ [] ++ M) (w := w2) (a_S (s_var (s := .ptr s) 1 rfl) (a_C x_int a_0)))) (fun a_u10 w_u10 => (EX.m (Lf := fun w : DS => LD s c w ++ [] ++ M) (w := w_u10) x_int)))) (fun _ _ _ _ _ x w2 M => (EX.m (Lf := fun w : DS => LD s c w ++ [] ++ M) (w := w2) (x_var (d := dI) (a := x) 20)))) sc_law.nd (blkOk_by (own := [("x", 20)]) (N := ["script", "state", "n", "ties", "every", "told", "some", "picture", "again", "both", "other", "joint", "one", "two", "d", "idle", "drawn", "right", "m", "side", "x", "row"]) (sc := defScope s_law) (by decide +kernel))) T.b_tuple)) (fun some_ => (b_step (vw := (fun picture : List Int => ([some (.scr script), some (.ptr s), some (.dat (dI n.1)), some (.dat ((dT (dP dI dI)) ties.1)), some (.dat ((dT dI) every)), some (.dat ((dO (dT dI)) told)), some (.dat ((dT dI) some_.1)), some (.dat ((dT dI) picture)), none, none, none, none, none, none, none, none, none, none, none, none, none, none], LD s c some_.2 ++ []))) (s_set 7 sc_law.nd (x_call K_picture_of hr (a_C (x_var (d := dI) (a := n.1) 2) (a_C (x_var (d := (dT (dP dI dI))) (a := ties.1) 3) (a_C (x_var (d := (dT dI)) (a := some_.1) 6) a_0))))) (fun picture => (b_step (vw := (fun again : Option (List Int) => ([some (.scr script), some (.ptr s), some (.dat (dI n.1)), some (.dat ((dT (dP dI dI)) ties.1)), some (.dat ((dT dI) every)), some (.dat ((dO (dT dI)) told)), some (.dat ((dT dI) some_.1)), some (.dat ((dT dI) picture)), some (.dat ((dO (dT dI)) again)), none, none, none, none, none, none, none, none, none, none, none, none, none], LD s c some_.2 ++ []))) (s_set 8 sc_law.nd (x_call K_any_presses hr (a_C (x_var (d := dI) (a := n.1) 2) (a_C (x_var (d := (dT (dP dI dI))) (a := ties.1) 3) (a_C (x_var (d := (dT dI)) (a := picture) 7) a_0))))) (fun again => (b_ifF (WX.t (w_or (t_not (t_val (x_call K_can_make hr (a_C (x_var (d := dI) (a := n.1) 2) (a_C (x_var (d := (dT (dP dI dI))) (a := ties.1) 3) (a_C (x_var (d := (dT dI)) (a := picture) 7) a_0)))))) (w_or (t_cmp op_isN (o_isN (d := (dT dI)) (by intro a h; cases h)) (x_var (d := (dO (dT dI))) (a := again) 8) x_unit) (w_or1 (t_cmp (op_neD hr.units) (o_neD (lw_tup lw_int)) (EX.conv (x_call K_picture_of hr (a_C (x_var (d := dI) (a := n.1) 2) (a_C (x_var (d := (dT (dP dI dI))) (a := ties.1) 3) (a_C (x_some (x_var (d := (dO (dT dI))) (a := again) 8)) a_0)))) (ca3 (some (n.1)) (some (ties.1)) (again) _)) (x_var (d := (dT dI)) (a := picture) 7)))))) (b_retr (L1 := []) x_bool) (b_step (vw := (fun both : List Int => ([some (.scr script), some (.ptr s), some (.dat (dI n.1)), some (.dat ((dT (dP dI dI)) ties.1)), some (.dat ((dT dI) every)), some (.dat ((dO (dT dI)) told)), some (.dat ((dT dI) some_.1)), some (.dat ((dT dI) picture)), some (.dat ((dO (dT dI)) again)), some (.dat ((dT dI) both)), none, none, none, none, none, none, none, none, none, none, none, none], LD s c some_.2 ++ []))) (s_set 9 sc_law.nd (x_tuple (EN.q (LCA.n (lp_if (own := [("x", 20)]) (d := dI) (i_rangeL (x_var (d := dI) (a := n.1) 2) T.b_range) (fun _ => trivial) (fun _ _ _ _ _ x1 => (y_name (s := .dat (dI x1)) 20 sc_law.nd)) (fun _ _ _ _ _ x1 M => (t_cmp op_ne o_neB (x_in lw_int hr (x_var (d := dI) (a := x1) 20) (EX.qt (x_var (d := (dT dI)) (a := some_.1) 6))) (x_in lw_int hr (x_var (d := dI) (a := x1) 20) (EX.qt (x_some (x_var (d := (dO (dT dI))) (a := again) 8)))))) (fun _ _ _ _ _ x1 M => (x_var (d := dI) (a := x1) 20))) sc_law.nd (blkOk_by (own := [("x", 20)]) (N := ["script", "state", "n", "ties", "every", "told", "some", "picture", "again", "both", "other", "joint", "one", "two", "d", "idle", "drawn", "right", "m", "side", "x", "row"]) (sc := defScope s_law) (by decide +kernel)))) T.b_tuple)) (fun both => (b_ifF (t_cmp (op_neD hr.units) (o_neD (lw_tup lw_int)) (x_call K_picture_of hr (a_C (x_var (d := dI) (a := n.1) 2) (a_C (x_var (d := (dT (dP dI dI))) (a := ties.1) 3) (a_C (x_var (d := (dT dI)) (a := both) 9) a_0)))) (x_th (d := dI) h_nil)) (b_retr (L1 := []) x_bool) (b_step (vw := (fun other : (List Int) × DS => ([some (.scr script), some (.ptr s), some (.dat (dI n.1)), some (.dat ((dT (dP dI dI)) ties.1)), some (.dat ((dT dI) every)), some (.dat ((dO (dT dI)) told)), some (.dat ((dT dI) some_.1)), some (.dat ((dT dI) picture)), some (.dat ((dO (dT dI)) again)), some (.dat ((dT dI) both)), some (.dat ((dT dI) other.1)), none, none, none, none, none, none, none, none, none, none, none], LD s c other.2 ++ []))) (s_setM (Lf := fun w : DS => LD s c w ++ []) (w := some_.2) 10 sc_law.nd (m_tuple (LCA.m (lm_if (own := [("x", 20)]) (d := dI) (Lf := fun w : DS => LD s c w ++ []) (w0 := some_.2) (i_rangeL (x_var (d := dI) (a := n.1) 2) T.b_range) (fun _ _ => trivial) (fun _ _ _ _ _ x2 => (y_name (s := .dat (dI x2)) 20 sc_law.nd)) (fun _ _ _ _ _ x2 w3 M => (tm_cmp op_eq o_eqI (m_call (Lf := LD s c) (Lr := ([] ++ M)) (fun _ _ => rfl) (K__law_draw.at_ (s, c)) hr (AX.m (Lf := fun w : DS => LD s c w ++ [] ++ M) (w := w3) (a_S (s_var (s := .ptr s) 1 rfl) (a_C x_int a_0)))) (fun a_u21 w_u21 => (EX.m (Lf := fun w : DS => LD s c w ++ [] ++ M) (w := w_u21) x_int)))) (fun _ _ _ _ _ x2 w3 M => (EX.m (Lf := fun w : DS => LD s c w ++ [] ++ M) (w := w3) (x_var (d := dI) (a := x2) 20)))) sc_law.nd (blkOk_by (own := [("x", 20)]) (N := ["script", "state", "n", "ties", "every", "told", "some", "picture", "again", "both", "other", "joint", "one", "two", "d", "idle", "drawn", "right", "m", "side", "x", "row"]) (sc := defScope s_law) (by decide +kernel))) T.b_tuple)) (fun other => (b_step (vw := (fun joint : List Int => ([some (.scr script), some (.ptr s), some (.dat (dI n.1)), some (.dat ((dT (dP dI dI)) ties.1)), some (.dat ((dT dI) every)), some (.dat ((dO (dT dI)) told)), some (.dat ((dT dI) some_.1)), some (.dat ((dT dI) picture)), some (.dat ((dO (dT dI)) again)), some (.dat ((dT dI) both)), some (.dat ((dT dI) other.1)), some (.dat ((dT dI) joint)), none, none, none, none, none, none, none, none, none, none], LD s c other.2 ++ []))) (s_set 11 sc_law.nd (x_tuple (EN.q (LCA.n (lp_if (own := [("x", 20)]) (d := dI) (i_rangeL (x_var (d := dI) (a := n.1) 2) T.b_range) (fun _ => trivial) (fun _ _ _ _ _ x3 => (y_name (s := .dat (dI x3)) 20 sc_law.nd)) (fun _ _ _ _ _ x3 M => (t_cmp op_ne o_neB (x_in lw_int hr (x_var (d := dI) (a := x3) 20) (EX.qt (x_var (d := (dT dI)) (a := some_.1) 6))) (x_in lw_int hr (x_var (d := dI) (a := x3) 20) (EX.qt (x_var (d := (dT dI)) (a := other.1) 10))))) (fun _ _ _ _ _ x3 M => (x_var (d := dI) (a := x3) 20))) sc_law.nd (blkOk_by (own := [("x", 20)]) (N := ["script", "state", "n", "ties", "every", "told", "some", "picture", "again", "both", "other", "joint", "one", "two", "d", "idle", "drawn", "right", "m", "side", "x", "row"]) (sc := defScope s_law) (by decide +kernel)))) T.b_tuple)) (fun joint => (b_step (s_asg (x_pair (x_call K_picture_of hr (a_C (x_var (d := dI) (a := n.1) 2) (a_C (x_var (d := (dT (dP dI dI))) (a := ties.1) 3) (a_C (x_var (d := (dT dI)) (a := some_.1) 6) a_0)))) (x_call K_picture_of hr (a_C (x_var (d := dI) (a := n.1) 2) (a_C (x_var (d := (dT (dP dI dI))) (a := ties.1) 3) (a_C (x_var (d := (dT dI)) (a := other.1) 10) a_0))))) (fun q => (g_tup (xs := [(dT dI) q.1, (dT dI) q.2]) rfl (gs_cons (g_name 12 sc_law.nd) (gs_cons (g_name 13 sc_law.nd) gs_nil))))) (fun q => (b_ifF (t_cmp (op_neD hr.units) (o_neD (lw_tup lw_int)) (x_call K_picture_of hr (a_C (x_var (d := dI) (a := n.1) 2) (a_C (x_var (d := (dT (dP dI dI))) (a := ties.1) 3) (a_C (x_var (d := (dT dI)) (a := joint) 11) a_0)))) (x_tuple (EN.q (LCA.n (lp_if (own := [("x", 20)]) (d := dI) (i_rangeL (x_var (d := dI) (a := n.1) 2) T.b_range) (fun _ => trivial) (fun _ _ _ _ _ x4 => (y_name (s := .dat (dI x4)) 20 sc_law.nd)) (fun _ _ _ _ _ x4 M => (t_cmp op_ne o_neB (x_in lw_int hr (x_var (d := dI) (a := x4) 20) (EX.qt (x_var (d := (dT dI)) (a := q.1) 12))) (x_in lw_int hr (x_var (d := dI) (a := x4) 20) (EX.qt (x_var (d := (dT dI)) (a := q.2) 13))))) (fun _ _ _ _ _ x4 M => (x_var (d := dI) (a := x4) 20))) sc_law.nd (blkOk_by (own := [("x", 20)]) (N := ["script", "state", "n", "ties", "every", "told", "some", "picture", "again", "both", "other", "joint", "one", "two", "d", "idle", "drawn", "right", "m", "side", "x", "row"]) (sc := defScope s_law) (by decide +kernel)))) T.b_tuple)) (b_retr (L1 := []) x_bool) (b_step (vw := (fun d : Int => ([some (.scr script), some (.ptr s), some (.dat (dI n.1)), some (.dat ((dT (dP dI dI)) ties.1)), some (.dat ((dT dI) every)), some (.dat ((dO (dT dI)) told)), some (.dat ((dT dI) some_.1)), some (.dat ((dT dI) picture)), some (.dat ((dO (dT dI)) again)), some (.dat ((dT dI) both)), some (.dat ((dT dI) other.1)), some (.dat ((dT dI) joint)), some (.dat ((dT dI) q.1)), some (.dat ((dT dI) q.2)), some (.dat (dI d)), none, none, none, none, none, none, none], LD s c other.2 ++ []))) (s_set 14 sc_law.nd (x_call K_slack hr (a_C (x_var (d := dI) (a := n.1) 2) (a_C (x_var (d := (dT (dP dI dI))) (a := ties.1) 3) a_0)))) (fun d => (b_stepF (vw := (fun s_ : DS => ([some (.scr script), some (.ptr s), none, none, none, none, none, none, none, none, none, none, none, none, none, none, none, none, none, none, none, none], LD s c s_ ++ []))) (rd := (fun r => (.dat (dB r), []))) id (s_if (t_cmp op_lt o_lt (x_var (d := dI) (a := d) 14) x_int) (b_step (vw := (fun idle : List (List Int) => ([some (.scr script), some (.ptr s), some (.dat (dI n.1)), some (.dat ((dT (dP dI dI)) ties.1)), some (.dat ((dT dI) every)), some (.dat ((dO (dT dI)) told)), some (.dat ((dT dI) some_.1)), some (.dat ((dT dI) picture)), some (.dat ((dO (dT dI)) again)), some (.dat ((dT dI) both)), some (.dat ((dT dI) other.1)), some (.dat ((dT dI) joint)), some (.dat ((dT dI) q.1)), some (.dat ((dT dI) q.2)), some (.dat (dI d)), some (.dat ((dL (dT dI)) idle)), none, none, none, none, none, none], LD s c other.2 ++ []))) (s_set 15 sc_law.nd (x_call K_idle_sets hr (a_C (x_var (d := dI) (a := n.1) 2) (a_C (x_var (d := (dT (dP dI dI))) (a := ties.1) 3) a_0)))) (fun idle => (b_ifret (rd := (fun r => (.dat (dB r), []))) Fx.ex (WX.t (w_or (t_cmp op_ne o_neI (x_len (EX.ql (x_var (d := (dL (dT dI))) (a := idle) 15)) T.b_len) (x_op op_shl o_shl x_int (x_var (d := dI) (a := d) 14))) (w_or (t_cmp (op_neD hr.units) (o_neD (lw_lst (lw_tup lw_int))) (x_var (d := (dL (dT dI))) (a := idle) 15) (EN.x (n_sortedSetT hr rfl (EX.l (x_var (d := (dL (dT dI))) (a := idle) 15)) T.b_sorted T.b_set))) (w_or1 (t_cmp (op_neD hr.units) (o_neD (lw_lst (lw_tup lw_int))) (EN.x (LCA.n (lp_if (own := [("row", 21)]) (d := (dT dI)) (i_lst (x_var (d := (dL (dT dI))) (a := idle) 15)) (fun _ => trivial) (fun _ _ _ _ _ row => (y_name (s := .dat ((dT dI) row)) 21 sc_law.nd)) (fun _ _ _ _ _ row M => (t_cmp (op_neD hr.units) (o_neD (lw_tup lw_int)) (x_call K_picture_of hr (a_C (x_var (d := dI) (a := n.1) 2) (a_C (x_var (d := (dT (dP dI dI))) (a := ties.1) 3) (a_C (x_var (d := (dT dI)) (a := row) 21) a_0)))) (x_th (d := dI) h_nil))) (fun _ _ _ _ _ row M => (x_var (d := (dT dI)) (a := row) 21))) sc_law.nd (blkOk_by (own := [("row", 21)]) (N := ["script", "state", "n", "ties", "every", "told", "some", "picture", "again", "both", "other", "joint", "one", "two", "d", "idle", "drawn", "right", "m", "side", "x", "row"]) (sc := defScope s_law) (by decide +kernel)))) (EN.x (n_lh (d := (dT dI)) h_nil))))))) (b_retr (L1 := []) x_bool) (b_ifret (rd := (fun r => (.dat (dB r), []))) Fx.ex (t_cmp (op_neD hr.units) (o_neD (lw_lst (lw_tup lw_int))) (EN.x (LCA.n (lp_if (own := [("row", 21)]) (d := (dT dI)) (i_lst (x_var (d := (dL (dT dI))) (a := idle) 15)) (fun _ => trivial) (fun _ _ _ _ _ row1 => (y_name (s := .dat ((dT dI) row1)) 21 sc_law.nd)) (fun _ _ _ _ _ row1 M => (t_cmp op_eq o_eqI (x_modL (x_t1 call_int1 c_int (x_len (EX.ql (EN.x (LCA.n (lp_if (own := [("x", 20)]) (d := dI) (i_tup (x_var (d := (dT dI)) (a := row1) 21)) (fun _ => trivial) (fun _ _ _ _ _ x5 => (y_name (s := .dat (dI x5)) 20 sc_law.nd)) (fun _ _ _ _ _ x5 M => (t_in lw_int hr (x_var (d := dI) (a := x5) 20) (EX.qt (x_var (d := (dT dI)) (a := picture) 7)))) (fun _ _ _ _ _ x5 M => (x_var (d := dI) (a := x5) 20))) sc_law.nd (blkOk_by (own := [("x", 20)]) (by kernel_rfl))))) T.b_len) T.b_int (by decide +kernel))) x_int)) (fun _ _ _ _ _ row1 M => (x_var (d := (dT dI)) (a := row1) 21))) sc_law.nd (blkOk_by (own := [("row", 21)]) (N := ["script", "state", "n", "ties", "every", "told", "some", "picture", "again", "both", "other", "joint", "one", "two", "d", "idle", "drawn", "right", "m", "side", "x", "row"]) (sc := defScope s_law) (by decide +kernel)))) (EN.x (n_lh (d := (dT dI)) h_nil))) (b_retr (L1 := []) x_bool) (b_step (vw := (fun drawn : (List Int) × DS => ([some (.scr script), some (.ptr s), some (.dat (dI n.1)), some (.dat ((dT (dP dI dI)) ties.1)), some (.dat ((dT dI) every)), some (.dat ((dO (dT dI)) told)), some (.dat ((dT dI) some_.1)), some (.dat ((dT dI) picture)), some (.dat ((dO (dT dI)) again)), some (.dat ((dT dI) both)), some (.dat ((dT dI) other.1)), some (.dat ((dT dI) joint)), some (.dat ((dT dI) q.1)), some (.dat ((dT dI) q.2)), some (.dat (dI d)), some (.dat ((dL (dT dI)) idle)), some (.dat ((dT dI) drawn.1)), none, none, none, none, none], LD s c drawn.2 ++ []))) (s_setM (Lf := fun w : DS => LD s c w ++ []) (w := other.2) 16 sc_law.nd (m_tuple (LCA.m (lm_if (own := [("x", 20)]) (d := dI) (Lf := fun w : DS => LD s c w ++ []) (w0 := other.2) (i_rangeL (x_var (d := dI) (a := n.1) 2) T.b_range) (fun _ _ => trivial) (fun _ _ _ _ _ x6 => (y_name (s := .dat (dI x6)) 20 sc_law.nd)) (fun _ _ _ _ _ x6 w4 M => (tm_cmp op_eq o_eqI (m_call (Lf := LD s c) (Lr := ([] ++ M)) (fun _ _ => rfl) (K__law_draw.at_ (s, c)) hr (AX.m (Lf := fun w : DS => LD s c w ++ [] ++ M) (w := w4) (a_S (s_var (s := .ptr s) 1 rfl) (a_C x_int a_0)))) (fun a_u41 w_u41 => (EX.m (Lf := fun w : DS => LD s c w ++ [] ++ M) (w := w_u41) x_int)))) (fun _ _ _ _ _ x6 w4 M => (EX.m (Lf := fun w : DS => LD s c w ++ [] ++ M) (w := w4) (x_var (d := dI) (a := x6) 20)))) sc_law.nd (blkOk_by (own := [("x", 20)]) (N := ["script", "state", "n", "ties", "every", "told", "some", "picture", "again", "both", "other", "joint", "one", "two", "d", "idle", "drawn", "right", "m", "side", "x", "row"]) (sc := defScope s_law) (by decide +kernel))) T.b_tuple)) (fun drawn => (b_step (vw := (fun right : Bool => ([some (.scr script), some (.ptr s), some (.dat (dI n.1)), some (.dat ((dT (dP dI dI)) ties.1)), some (.dat ((dT dI) every)), some (.dat ((dO (dT dI)) told)), some (.dat ((dT dI) some_.1)), some (.dat ((dT dI) picture)), some (.dat ((dO (dT dI)) again)), some (.dat ((dT dI) both)), some (.dat ((dT dI) other.1)), some (.dat ((dT dI) joint)), some (.dat ((dT dI) q.1)), some (.dat ((dT dI) q.2)), some (.dat (dI d)), some (.dat ((dL (dT dI)) idle)), some (.dat ((dT dI) drawn.1)), some (.dat (dB right)), none, none, none, none], LD s c drawn.2 ++ []))) (s_set 17 sc_law.nd (x_cmp (op_eqD hr.units) (o_eqD (lw_lst (lw_tup lw_int))) (EN.x (LCA.n (lp_if (own := [("row", 21)]) (d := (dT dI)) (i_lst (x_var (d := (dL (dT dI))) (a := idle) 15)) (fun _ => trivial) (fun _ _ _ _ _ row2 => (y_name (s := .dat ((dT dI) row2)) 21 sc_law.nd)) (fun _ _ _ _ _ row2 M => (t_cmp op_eq o_eqI (x_modL (x_t1 call_int1 c_int (x_len (EX.ql (EN.x (LCA.n (lp_if (own := [("x", 20)]) (d := dI) (i_tup (x_var (d := (dT dI)) (a := row2) 21)) (fun _ => trivial) (fun _ _ _ _ _ x7 => (y_name (s := .dat (dI x7)) 20 sc_law.nd)) (fun _ _ _ _ _ x7 M => (t_in lw_int hr (x_var (d := dI) (a := x7) 20) (EX.qt (x_var (d := (dT dI)) (a := drawn.1) 16)))) (fun _ _ _ _ _ x7 M => (x_var (d := dI) (a := x7) 20))) sc_law.nd (blkOk_by (own := [("x", 20)]) (by kernel_rfl))))) T.b_len) T.b_int (by decide +kernel))) x_int)) (fun _ _ _ _ _ row2 M => (x_var (d := (dT dI)) (a := row2) 21))) sc_law.nd (blkOk_by (own := [("row", 21)]) (N := ["script", "state", "n", "ties", "every", "told", "some", "picture", "again", "both", "other", "joint", "one", "two", "d", "idle", "drawn", "right", "m", "side", "x", "row"]) (sc := defScope s_law) (by decide +kernel)))) (EN.x (n_lh (d := (dT dI)) h_nil)))) (fun right => (b_one (s_if (t_not (t_val (EX.conv (x_call K__law_eq hr (a_C (EX.dd (x_call K_can_make hr (a_C (x_var (d := dI) (a := n.1) 2) (a_C (x_var (d := (dT (dP dI dI))) (a := ties.1) 3) (a_C (x_var (d := (dT dI)) (a := drawn.1) 16) a_0))))) (a_C (EX.dd (x_var (d := dB) (a := right) 17)) a_0))) (ca2 ((m_can_make fu n.1 ties.1 drawn.1).map fun u47 => dB u47) (some (dB right)) _)))) (b_ret (L1 := []) Fx.ex x_bool (fun _ => rfl)) (b_end (b := (Fx.go drawn.2)) [true, true, false, false, false, false, false, false, false, false, false, false, false, false, false, false, false, false, false, false, false, false] rfl))))))))))) (b_end (b := (Fx.go other.2)) [true, true, false, false, false, false, false, false, false, false, false, false, false, false, false, false, false, false, false, false, false, false] rfl)) (fun s1 => (b_step (vw := (fun n1 : (Int) × DS => ([some (.scr script), some (.ptr s), some (.dat (dI n1.1)), none, none, none, none, none, none, none, none, none, none, none, none, none, none, none, none, none, none, none], LD s c n1.2 ++ []))) (s_setM (Lf := fun w : DS => LD s c w ++ []) (w := s1) 2 sc_law.nd (m_op op_add o_add (EX.m (Lf := fun w : DS => LD s c w ++ []) (w := s1) x_int) (fun a_u53 w_u53 => (m_call (Lf := LD s c) (Lr := ([])) (fun _ _ => rfl) (K__law_draw.at_ (s, c)) hr (AX.m (Lf := fun w : DS => LD s c w ++ []) (w := w_u53) (a_S (s_var (s := .ptr s) 1 rfl) (a_C x_int a_0))))))) (fun n1 => (b_ifF (WX.t (w_or (t_not (t_val (EX.conv (x_call K__law_eq hr (a_C (EX.dd (EX.conv (x_call K_slack hr (a_C (x_var (d := dI) (a := n1.1) 2) (a_C (x_call K__law_path hr (a_C (x_var (d := dI) (a := n1.1) 2) a_0)) a_0))) (ca2 (some (n1.1)) (m__law_path n1.1) _))) (a_C (EX.dd (x_t1 call_int1 c_intB (x_cmp op_eq o_eqI (x_modL (x_t1 call_int1 c_int (x_var (d := dI) (a := n1.1) 2) T.b_int (by decide +kernel))) x_int) T.b_int (by decide +kernel))) a_0))) (ca2 (((m__law_path n1.1).bind fun u55 => m_slack fu n1.1 u55).map fun u56 => dI u56) (((some (decide ((n1.1 % 3) = 2))).bind fun i => some (if i then (1 : Int) else 0)).map fun u57 => dI u57) _)))) (w_or1 (WX.t (w_and (t_cmp op_gt o_gt (x_var (d := dI) (a := n1.1) 2) x_int) (w_and1 (t_not (t_val (EX.conv (x_call K__law_eq hr (a_C (EX.dd (EX.conv (x_call K_slack hr (a_C (x_var (d := dI) (a := n1.1) 2) (a_C (x_call K__law_ring hr (a_C (x_var (d := dI) (a := n1.1) 2) a_0)) a_0))) (ca2 (some (n1.1)) (m__law_ring n1.1) _))) (a_C (x_ifP (t_cmp op_eq o_eqI (x_modL (x_t1 call_int1 c_int (x_var (d := dI) (a := n1.1) 2) T.b_int (by decide +kernel))) x_int) (EX.dd x_int) (EX.dd x_int)) a_0))) (ca2 (((m__law_ring n1.1).bind fun u61 => m_slack fu n1.1 u61).map fun u62 => dI u62) (some (if decide ((n1.1 % 3) = 0) then dI 2 else dI 0)) _)))))))))) (b_retr (L1 := []) x_bool) (b_step (vw := (fun m : (Int) × DS => ([some (.scr script), some (.ptr s), some (.dat (dI n1.1)), none, none, none, none, none, none, none, none, none, none, none, none, none, none, none, some (.dat (dI m.1)), none, none, none], LD s c m.2 ++ []))) (s_setM (Lf := fun w : DS => LD s c w ++ []) (w := n1.2) 18 sc_law.nd (m_op op_add o_add (EX.m (Lf := fun w : DS => LD s c w ++ []) (w := n1.2) x_int) (fun a_u66 w_u66 => (m_call (Lf := LD s c) (Lr := ([])) (fun _ _ => rfl) (K__law_draw.at_ (s, c)) hr (AX.m (Lf := fun w : DS => LD s c w ++ []) (w := w_u66) (a_S (s_var (s := .ptr s) 1 rfl) (a_C x_int a_0))))))) (fun m => (b_ifF (t_not (t_val (EX.conv (x_call K__law_eq hr (a_C (EX.dd (EX.conv (x_call K_slack hr (a_C (x_var (d := dI) (a := m.1) 18) (a_C (x_call K__law_whole hr (a_C (x_var (d := dI) (a := m.1) 18) a_0)) a_0))) (ca2 (some (m.1)) (m__law_whole m.1) _))) (a_C (EX.dd (x_op op_sub o_sub (x_var (d := dI) (a := m.1) 18) x_int)) a_0))) (ca2 (((m__law_whole m.1).bind fun u68 => m_slack fu m.1 u68).map fun u69 => dI u69) (some (dI (m.1 - 1))) _)))) (b_retr (L1 := []) x_bool) (b_step (vw := (fun side : (Int) × DS => ([some (.scr script), some (.ptr s), some (.dat (dI n1.1)), none, none, none, none, none, none, none, none, none, none, none, none, none, none, none, some (.dat (dI m.1)), some (.dat (dI side.1)), none, none], LD s c side.2 ++ []))) (s_setM (Lf := fun w : DS => LD s c w ++ []) (w := m.2) 19 sc_law.nd (m_op op_add o_add (EX.m (Lf := fun w : DS => LD s c w ++ []) (w := m.2) x_int) (fun a_u72 w_u72 => (m_call (Lf := LD s c) (Lr := ([])) (fun _ _ => rfl) (K__law_draw.at_ (s, c)) hr (AX.m (Lf := fun w : DS => LD s c w ++ []) (w := w_u72) (a_S (s_var (s := .ptr s) 1 rfl) (a_C x_int a_0))))))) (fun side => (b_retr (L1 := []) (EX.conv (x_call K__law_eq hr (a_C (EX.dd (EX.conv (x_call K_slack hr (a_C (x_op op_mul o_mul (x_var (d := dI) (a := side.1) 19) (x_var (d := dI) (a := side.1) 19)) (a_C (x_call K__law_board hr (a_C (x_var (d := dI) (a := side.1) 19) (a_C (x_var (d := dI) (a := side.1) 19) a_0))) a_0))) (ca2 (mulO side.1 side.1) (m__law_board side.1 side.1) _))) (a_C (EX.dd (x_ix (EX.ql (EN.x (n_lh (d := dI) (h_cons x_int (h_cons x_int (h_cons x_int (h_cons x_int (h_cons x_int (h_cons x_int (h_cons x_int (h_cons x_int h_nil))))))))))) (x_var (d := dI) (a := side.1) 19))) a_0))) (ca2 (((mulO side.1 side.1).bind fun u74 => (m__law_board side.1 side.1).bind fun u75 => m_slack fu u74 u75).map fun u76 => dI u76) ((atO [0, 0, 0, 0, 4, 2, 0, 0] side.1).map fun u77 => dI u77) _)))))))))))))))))))))))))))))))))))))))))))) (by kernel_rfl))
end Prog
/-! ### sums of rows to the base 2 -/
namespace Lmp
/-- xor of the bits below n -/
def par : Nat → (Nat → Bool) → Bool
  | 0, _ => false
  | k + 1, f => (par k f).xor (f k)
theorem par_congr : ∀ {n : Nat} {f g : Nat → Bool}, (∀ i, i < n → f i = g i) → par n f = par n g
  | 0, _, _, _ => rfl
  | n + 1, f, g, h => by unfold par; rw [par_congr (fun i hi => h i (by omega)), h n (by omega)]
theorem par_xor : ∀ (n : Nat) (f g : Nat → Bool), par n (fun i => (f i).xor (g i)) = (par n f).xor (par n g)
  | 0, _, _ => rfl
  | n + 1, f, g => by
    show (par n fun i => (f i).xor (g i)).xor ((f n).xor (g n)) = ((par n f).xor (f n)).xor ((par n g).xor (g n))
    rw [par_xor n f g]
    cases par n f <;> cases par n g <;> cases f n <;> cases g n <;> rfl
theorem par_false : ∀ {n : Nat} {f : Nat → Bool}, (∀ i, i < n → f i = false) → par n f = false
  | 0, _, _ => rfl
  | n + 1, f, h => by unfold par; rw [par_false (fun i hi => h i (by omega)), h n (by omega)]; rfl
theorem par_and : ∀ (n : Nat) (f : Nat → Bool) (b : Bool), par n (fun i => f i && b) = (par n f && b)
  | 0, _, _ => rfl
  | n + 1, f, b => by
    show (par n fun i => f i && b).xor (f n && b) = ((par n f).xor (f n) && b)
    rw [par_and n f b]
    cases par n f <;> cases f n <;> cases b <;> rfl
theorem par_swap : ∀ (m n : Nat) (f : Nat → Nat → Bool), par m (fun i => par n fun j => f i j) = par n fun j => par m fun i => f i j
  | 0, n, f => (par_false fun _ _ => rfl).symm
  | m + 1, n, f => by
    show (par m fun i => par n fun j => f i j).xor (par n fun j => f m j) = par n fun j => (par m fun i => f i j).xor (f m j)
    rw [par_swap m n f, ← par_xor]
theorem par_one {n k : Nat} (hk : k < n) {f : Nat → Bool} (h : ∀ i, i < n → i ≠ k → f i = false) : par n f = f k := by
  induction n with
  | zero => omega
  | succ n ih =>
    unfold par
    by_cases e : k = n
    · subst e
      rw [par_false fun i hi => h i (by omega) (by omega), Bool.false_xor]
    · rw [ih (by omega) fun i hi => h i (by omega), h n (by omega) (fun q => e q.symm), Bool.xor_false]
/-- of a table that is the same across, only the diagonal counts -/
theorem par_diag : ∀ (n : Nat) (f : Nat → Nat → Bool), (∀ i j, i < n → j < n → f i j = f j i) → par n (fun i => par n fun j => f i j) = par n fun i => f i i
  | 0, _, _ => rfl
  | n + 1, f, h => by
    have e : ∀ i, par (n + 1) (fun j => f i j) = (par n fun j => f i j).xor (f i n) := fun _ => rfl
    show (par n fun i => par (n + 1) fun j => f i j).xor (par (n + 1) fun j => f n j) = (par n fun i => f i i).xor (f n n)
    rw [par_congr (g := fun i => (par n fun j => f i j).xor (f i n)) fun i _ => e i, par_xor, par_diag n f fun i j hi hj => h i j (by omega) (by omega), e n]
    rw [par_congr (n := n) (f := fun i => f i n) (g := fun j => f n j) fun i hi => h i n (by omega) (by omega)]
    cases par n (fun i => f i i) <;> cases par n (fun j => f n j) <;> cases f n n <;> rfl
/-- the even or odd number of places in common -/
def dot (n x q : Nat) : Bool := par n fun i => x.testBit i && q.testBit i
theorem dot_comm (n x q : Nat) : dot n x q = dot n q x := par_congr fun i _ => Bool.and_comm _ _
theorem dot_xor (n x y q : Nat) : dot n (x ^^^ y) q = (dot n x q).xor (dot n y q) := by
  unfold dot
  rw [← par_xor]
  refine par_congr fun i _ => ?_
  rw [Nat.testBit_xor]
  cases x.testBit i <;> cases y.testBit i <;> cases q.testBit i <;> rfl
theorem dot_xor2 (n x p q : Nat) : dot n x (p ^^^ q) = (dot n x p).xor (dot n x q) := by
  rw [dot_comm, dot_xor, dot_comm n p, dot_comm n q]
theorem dot_zero (n q : Nat) : dot n 0 q = false := par_false fun i _ => by simp
theorem dot_two {n k : Nat} (hk : k < n) (x : Nat) : dot n x (2 ^ k) = x.testBit k := by
  unfold dot
  rw [par_one hk fun i hi ne => by rw [Nat.testBit_two_pow, decide_eq_false (fun q => ne q.symm), Bool.and_false]]
  rw [Nat.testBit_two_pow_self, Bool.and_true]
/-- the sum of the rows at p's places below k -/
def pic (r : Nat → Nat) : Nat → Nat → Nat
  | 0, _ => 0
  | k + 1, p => if p.testBit k then pic r k p ^^^ r k else pic r k p
section
variable {r : Nat → Nat} {n k : Nat}
theorem pic_bit (r : Nat → Nat) : ∀ (k p i : Nat), (pic r k p).testBit i = par k fun j => p.testBit j && (r j).testBit i
  | 0, p, i => by unfold pic par; exact Nat.zero_testBit i
  | k + 1, p, i => by
    show (if p.testBit k then pic r k p ^^^ r k else pic r k p).testBit i = (par k fun j => p.testBit j && (r j).testBit i).xor (p.testBit k && (r k).testBit i)
    rw [← pic_bit r k p i]
    cases h : p.testBit k
    · rw [if_neg (by simp), Bool.false_and, Bool.xor_false]
    · rw [if_pos rfl, Nat.testBit_xor, Bool.true_and]
theorem pic_xor (r : Nat → Nat) (k p q : Nat) : pic r k (p ^^^ q) = pic r k p ^^^ pic r k q := by
  refine Nat.eq_of_testBit_eq fun i => ?_
  rw [Nat.testBit_xor, pic_bit, pic_bit, pic_bit, ← par_xor]
  refine par_congr fun j _ => ?_
  rw [Nat.testBit_xor]
  cases p.testBit j <;> cases q.testBit j <;> cases (r j).testBit i <;> rfl
theorem pic_zero (r : Nat → Nat) (k : Nat) : pic r k 0 = 0 := by
  refine Nat.eq_of_testBit_eq fun i => ?_
  rw [pic_bit, Nat.zero_testBit]
  exact par_false fun j _ => by simp
theorem pic_two (r : Nat → Nat) (hk : k < n) : pic r n (2 ^ k) = r k := by
  refine Nat.eq_of_testBit_eq fun i => ?_
  rw [pic_bit, par_one hk fun j _ ne => by rw [Nat.testBit_two_pow, decide_eq_false (fun q => ne q.symm), Bool.false_and]]
  rw [Nat.testBit_two_pow_self, Bool.true_and]
theorem pic_lt (h : ∀ i, i < k → r i < 2 ^ n) (p : Nat) : pic r k p < 2 ^ n := by
  induction k with
  | zero => exact Nat.two_pow_pos n
  | succ k ih =>
    unfold pic
    split
    · exact Nat.xor_lt_two_pow (ih fun i hi => h i (by omega)) (h k (by omega))
    · exact ih fun i hi => h i (by omega)
/-- only the places below k count -/
theorem pic_congr {p q : Nat} (h : ∀ i, i < k → p.testBit i = q.testBit i) : pic r k p = pic r k q := by
  refine Nat.eq_of_testBit_eq fun i => ?_
  rw [pic_bit, pic_bit]
  exact par_congr fun j hj => by rw [h j hj]
/-- one row more -/
theorem pic_more {p : Nat} (h : p < 2 ^ k) : pic r (k + 1) p = pic r k p := by
  show (if p.testBit k then pic r k p ^^^ r k else pic r k p) = _
  rw [Nat.testBit_lt_two_pow h]
  rfl
theorem pic_up {p m : Nat} (h : p < 2 ^ k) (hm : k ≤ m) : pic r m p = pic r k p := by
  induction m with
  | zero => rw [Nat.le_zero.mp hm]
  | succ m ih =>
    by_cases e : k = m + 1
    · rw [e]
    · have hk : k ≤ m := by omega
      rw [pic_more (Nat.lt_of_lt_of_le h (Nat.pow_le_pow_right (by decide) hk)), ih hk]
structure Sym (r : Nat → Nat) (n : Nat) : Prop where
  lt : ∀ i, i < n → r i < 2 ^ n
  sym : ∀ i j, i < n → j < n → (r i).testBit j = (r j).testBit i
  one : ∀ i, i < n → (r i).testBit i = true
theorem Sym.bit (s : Sym r n) {i : Nat} (hi : i < n) (q : Nat) : (pic r n q).testBit i = dot n (r i) q := by
  rw [pic_bit]
  refine par_congr fun j hj => ?_
  rw [s.sym j i hj hi, Bool.and_comm]
theorem Sym.adj (s : Sym r n) (p q : Nat) : dot n (pic r n p) q = dot n p (pic r n q) := by
  unfold dot
  rw [par_congr (g := fun i => par n fun j => (p.testBit j && (r j).testBit i) && q.testBit i) fun i _ => by rw [pic_bit, par_and]]
  rw [par_swap]
  refine par_congr fun j hj => ?_
  rw [s.bit hj]
  unfold dot
  rw [Bool.and_comm (p.testBit j), ← par_and]
  refine par_congr fun i _ => ?_
  cases p.testBit j <;> cases (r j).testBit i <;> cases q.testBit i <;> rfl
theorem Sym.self (s : Sym r n) (q : Nat) : dot n q (pic r n q) = par n fun i => q.testBit i := by
  unfold dot
  rw [par_congr (g := fun i => par n fun j => q.testBit i && (q.testBit j && (r j).testBit i)) fun i _ => by
    rw [pic_bit, Bool.and_comm, ← par_and]
    exact par_congr fun j _ => Bool.and_comm _ _]
  rw [par_diag n _ fun i j hi hj => by
    rw [s.sym i j hi hj]
    cases q.testBit i <;> cases q.testBit j <;> rfl]
  refine par_congr fun i hi => ?_
  rw [s.one i hi]
  cases q.testBit i <;> rfl
/-- either made, or told apart by one that each row meets evenly -/
theorem made_or : ∀ (k : Nat), (∀ i, i < k → r i < 2 ^ n) → ∀ (x : Nat), x < 2 ^ n → (∃ p, p < 2 ^ k ∧ x = pic r k p) ∨ ∃ q, q < 2 ^ n ∧ (∀ i, i < k → dot n (r i) q = false) ∧ dot n x q = true
  | 0, _, x, hx => by
    by_cases h : x = 0
    · exact .inl ⟨0, by decide, h⟩
    · right
      obtain ⟨i, hi⟩ := Nat.exists_testBit_of_ne_zero h
      have hn : i < n := by
        refine Nat.lt_of_not_le fun q => ?_
        rw [Nat.testBit_lt_two_pow (Nat.lt_of_lt_of_le hx (Nat.pow_le_pow_right (by decide) q))] at hi
        cases hi
      exact ⟨2 ^ i, Nat.pow_lt_pow_right (by decide) hn, fun _ h => absurd h (by omega), by rw [dot_two hn]; exact hi⟩
  | k + 1, hr', x, hx => by
    have hr := hr' k (by omega)
    have two : ∀ {p : Nat}, p < 2 ^ k → p < 2 ^ (k + 1) := fun h => Nat.lt_of_lt_of_le h (Nat.pow_le_pow_right (by decide) (by omega))
    rcases made_or k (fun i hi => hr' i (by omega)) x hx with ⟨p, hp, e⟩ | ⟨q, hq, h1, h2⟩
    · exact .inl ⟨p, two hp, by rw [pic_more hp]; exact e⟩
    by_cases hd : dot n (r k) q = true
    case neg => exact .inr ⟨q, hq, fun i hi => by
      by_cases e : i = k
      · subst e; simpa using hd
      · exact h1 i (by omega), h2⟩
    rcases made_or k (fun i hi => hr' i (by omega)) (x ^^^ r k) (Nat.xor_lt_two_pow hx hr) with ⟨p, hp, e⟩ | ⟨q', hq', h1', h2'⟩
    · left
      refine ⟨p ^^^ 2 ^ k, Nat.xor_lt_two_pow (two hp) (Nat.pow_lt_pow_right (by decide) (by omega)), ?_⟩
      rw [pic_xor, pic_two r (by omega), pic_more hp, ← e, Nat.xor_assoc, Nat.xor_self, Nat.xor_zero]
    · rw [dot_xor] at h2'
      by_cases hx' : dot n x q' = true
      · refine .inr ⟨q', hq', fun i hi => ?_, hx'⟩
        by_cases e : i = k
        · subst e
          rw [hx'] at h2'
          simpa using h2'
        · exact h1' i (by omega)
      · have hx'' : dot n x q' = false := by simpa using hx'
        rw [hx'', Bool.false_xor] at h2'
        refine .inr ⟨q ^^^ q', Nat.xor_lt_two_pow hq hq', fun i hi => ?_, by rw [dot_xor2, h2, hx'']; rfl⟩
        rw [dot_xor2]
        by_cases e : i = k
        · subst e; rw [hd, h2']; rfl
        · rw [h1 i (by omega), h1' i (by omega)]; rfl
/-- a picture can be made just if it has an even number of places in common with each idle set -/
theorem Sym.made_iff (s : Sym r n) {x : Nat} (hx : x < 2 ^ n) : (∃ p, p < 2 ^ n ∧ x = pic r n p) ↔ ∀ q, q < 2 ^ n → pic r n q = 0 → dot n x q = false := by
  constructor
  · rintro ⟨p, hp, rfl⟩ q hq h
    rw [s.adj, h, dot_comm, dot_zero]
  · intro h
    rcases made_or n s.lt x hx with h1 | ⟨q, hq, h1, h2⟩
    · exact h1
    · have h3 : pic r n q = 0 := by
        refine Nat.eq_of_testBit_eq fun i => ?_
        rw [Nat.zero_testBit]
        by_cases hi : i < n
        · rw [s.bit hi]; exact h1 i hi
        · exact Nat.testBit_lt_two_pow (Nat.lt_of_lt_of_le (pic_lt s.lt q) (Nat.pow_le_pow_right (by decide) (by omega)))
      rw [h q hq h3] at h2
      cases h2
/-- the picture of all can be made -/
theorem Sym.all (s : Sym r n) : ∃ p, p < 2 ^ n ∧ 2 ^ n - 1 = pic r n p := by
  have h0 : 2 ^ n - 1 < 2 ^ n := Nat.sub_lt (Nat.two_pow_pos n) (by decide)
  refine (s.made_iff h0).mpr fun q hq h => ?_
  have h1 := s.self q
  rw [h, dot_comm, dot_zero] at h1
  rw [h1]
  unfold dot
  refine par_congr fun i hi => ?_
  rw [Nat.testBit_two_pow_sub_one, decide_eq_true hi, Bool.true_and]
end
end Lmp
/-! ### rows brought to heads of different heights -/
namespace Lmp
open PySem L2 Mir
def hgt (m : Nat) : Nat := if m = 0 then 0 else m.log2 + 1
theorem hgt_le {m t : Nat} : hgt m ≤ t ↔ m < 2 ^ t := by
  unfold hgt
  split
  · rename_i h; subst h; exact ⟨fun _ => Nat.two_pow_pos t, fun _ => Nat.zero_le _⟩
  · rename_i h
    rw [← Nat.log2_lt h]
    omega
theorem lt_hgt (m : Nat) : m < 2 ^ hgt m := hgt_le.mp (Nat.le_refl _)
theorem hgt_pos {m : Nat} (h : m ≠ 0) : ∃ t, hgt m = t + 1 ∧ m.testBit t = true := ⟨m.log2, by unfold hgt; rw [if_neg h], Nat.testBit_log2 h⟩
theorem bit_hgt {m t : Nat} (h : m.testBit t = true) : t < hgt m := by
  refine Nat.lt_of_not_le fun q => ?_
  rw [Nat.testBit_lt_two_pow (hgt_le.mp q)] at h
  cases h
theorem hgt_eq {m t : Nat} (h : m.testBit t = true) (h2 : m < 2 ^ (t + 1)) : hgt m = t + 1 := Nat.le_antisymm (hgt_le.mpr h2) (bit_hgt h)
theorem hgt_zero {m : Nat} (h : hgt m = 0) : m = 0 := by
  unfold hgt at h
  split at h
  · assumption
  · omega
/-- two of one height: their sum is lower -/
theorem hgt_xor_lt {a b : Nat} (ha : a ≠ 0) (h : hgt b = hgt a) : hgt (a ^^^ b) < hgt a := by
  obtain ⟨t, h1, h2⟩ := hgt_pos ha
  have hb : b ≠ 0 := fun e => by rw [e] at h; rw [h1] at h; cases h
  obtain ⟨u, h3, h4⟩ := hgt_pos hb
  have e : u = t := by omega
  subst e
  rw [h1, Nat.lt_succ_iff, hgt_le]
  refine Nat.lt_pow_two_of_testBit _ fun i hi => ?_
  rw [Nat.testBit_xor]
  by_cases e : i = u
  · subst e; rw [h2, h4]; rfl
  · have : u + 1 ≤ i := by omega
    rw [Nat.testBit_lt_two_pow (Nat.lt_of_lt_of_le (lt_hgt a) (Nat.pow_le_pow_right (by decide) (by omega))), Nat.testBit_lt_two_pow (Nat.lt_of_lt_of_le (lt_hgt b) (Nat.pow_le_pow_right (by decide) (by omega)))]
    rfl
theorem hgt_xor_eq {a b : Nat} (h : hgt a < hgt b) : hgt (a ^^^ b) = hgt b := by
  have hb : b ≠ 0 := fun e => by rw [e] at h; exact absurd h (by unfold hgt; simp)
  obtain ⟨t, h1, h2⟩ := hgt_pos hb
  rw [h1]
  refine hgt_eq ?_ (Nat.xor_lt_two_pow (hgt_le.mp (by omega)) (hgt_le.mp (by omega)))
  rw [Nat.testBit_xor, h2, Nat.testBit_lt_two_pow (hgt_le.mp (by omega : hgt a ≤ t))]
  rfl
def sums (L : List Nat) : List Nat := L.foldl (fun f r => f ++ f.map fun m => m ^^^ r) [0]
theorem sums_app (L : List Nat) (a : Nat) : sums (L ++ [a]) = sums L ++ (sums L).map fun m => m ^^^ a := by unfold sums; rw [List.foldl_append]; rfl
theorem sums_len (L : List Nat) : (sums L).length = 2 ^ L.length := by
  suffices h : ∀ (L f : List Nat), (L.foldl (fun f r => f ++ f.map fun m => m ^^^ r) f).length = f.length * 2 ^ L.length by
    have := h L [0]
    rw [List.length_singleton, Nat.one_mul] at this
    exact this
  intro L
  induction L with
  | nil => intro f; simp
  | cons a L ih =>
    intro f
    rw [List.foldl_cons, ih, List.length_append, List.length_map, List.length_cons, Nat.pow_succ, Nat.mul_comm (2 ^ L.length), ← Nat.mul_assoc]
    congr 1
    omega
theorem xor_cancel {a b c : Nat} (h : a ^^^ c = b ^^^ c) : a = b := by
  have := congrArg (fun z => z ^^^ c) h
  simpa [Nat.xor_assoc] using this
structure Heads (r : Nat → Nat) (n k : Nat) (hs : List (Nat × Nat × Nat)) (idle : List Nat) : Prop where
  hd : ∀ e ∈ hs, e.2.1 ≠ 0 ∧ hgt e.2.1 = e.1 ∧ e.2.2 < 2 ^ k ∧ pic r n e.2.2 = e.2.1
  idl : ∀ q ∈ idle, q < 2 ^ k ∧ pic r n q = 0
  img : ∀ p, p < 2 ^ k → pic r n p ≠ 0 → ∃ e ∈ hs, e.1 = hgt (pic r n p)
  ker : ∀ p, p < 2 ^ k → (p ∈ sums idle ↔ pic r n p = 0)
  lt : ∀ p ∈ sums idle, p < 2 ^ k
  snd : (sums idle).Nodup
section
variable {r : Nat → Nat} {n k : Nat} {hs : List (Nat × Nat × Nat)} {idle : List Nat}
theorem two_up {p : Nat} (h : p < 2 ^ k) : p < 2 ^ (k + 1) := Nat.lt_of_lt_of_le h (Nat.pow_le_pow_right (by decide) (by omega))
theorem heads_nil : Heads r n 0 [] [] where
  hd := fun _ h => (by cases h)
  idl := fun _ h => (by cases h)
  img := fun p hp h => by
    have : p = 0 := by omega
    subst this
    exact absurd (pic_zero r n) h
  ker := fun p hp => by
    have : p = 0 := by omega
    subst this
    exact ⟨fun _ => pic_zero r n, fun _ => List.mem_singleton.mpr rfl⟩
  lt := fun p hp => by
    have : p = 0 := List.mem_singleton.mp hp
    omega
  snd := by decide
/-- with place k's bit: below 2^k with p taken away -/
theorem split_bit {p q s : Nat} (hq : q = 2 ^ k ^^^ s) (hs' : s < 2 ^ k) (hp : p < 2 ^ (k + 1)) : p < 2 ^ k ∨ ∃ p', p' < 2 ^ k ∧ p = p' ^^^ q := by
  cases h : p.testBit k with
  | false =>
    left
    refine Nat.lt_pow_two_of_testBit _ fun i hi => ?_
    by_cases e : i = k
    · subst e; exact h
    · exact Nat.testBit_lt_two_pow (Nat.lt_of_lt_of_le hp (Nat.pow_le_pow_right (by decide) (by omega)))
  | true =>
    refine .inr ⟨p ^^^ q, ?_, by rw [Nat.xor_assoc, Nat.xor_self, Nat.xor_zero]⟩
    refine Nat.lt_pow_two_of_testBit _ fun i hi => ?_
    rw [hq, Nat.testBit_xor, Nat.testBit_xor, Nat.testBit_two_pow]
    have h0 : s.testBit i = false := Nat.testBit_lt_two_pow (Nat.lt_of_lt_of_le hs' (Nat.pow_le_pow_right (by decide) hi))
    by_cases e : i = k
    · subst e; rw [h, h0, decide_eq_true rfl]; rfl
    · rw [h0, decide_eq_false (fun q => e q.symm), Nat.testBit_lt_two_pow (Nat.lt_of_lt_of_le hp (Nat.pow_le_pow_right (by decide) (by omega)))]
      rfl
theorem new_lt {q s : Nat} (hq : q = 2 ^ k ^^^ s) (hs' : s < 2 ^ k) : q < 2 ^ (k + 1) := by
  rw [hq]
  exact Nat.xor_lt_two_pow (Nat.pow_lt_pow_right (by decide) (by omega)) (two_up hs')
theorem new_bit {q s p : Nat} (hq : q = 2 ^ k ^^^ s) (hs' : s < 2 ^ k) (hp : p < 2 ^ k) : (p ^^^ q).testBit k = true := by
  rw [hq, Nat.testBit_xor, Nat.testBit_xor, Nat.testBit_two_pow_self, Nat.testBit_lt_two_pow hp, Nat.testBit_lt_two_pow hs']
  rfl
theorem Heads.idle_more (h : Heads r n k hs idle) {q s : Nat} (hq : q = 2 ^ k ^^^ s) (hs' : s < 2 ^ k) (h0 : pic r n q = 0) : Heads r n (k + 1) hs (idle ++ [q]) where
  hd := fun e he => by
    obtain ⟨a, b, c, d⟩ := h.hd e he
    exact ⟨a, b, two_up c, d⟩
  idl := fun p hp => by
    rcases List.mem_append.mp hp with hp | hp
    · obtain ⟨a, b⟩ := h.idl p hp; exact ⟨two_up a, b⟩
    · rw [List.mem_singleton.mp hp]; exact ⟨new_lt hq hs', h0⟩
  img := fun p hp hne => by
    rcases split_bit hq hs' hp with h1 | ⟨p', h1, rfl⟩
    · exact h.img p h1 hne
    · rw [pic_xor, h0, Nat.xor_zero] at hne ⊢
      exact h.img p' h1 hne
  ker := fun p hp => by
    rw [sums_app, List.mem_append, List.mem_map]
    rcases split_bit hq hs' hp with h1 | ⟨p', h1, rfl⟩
    · rw [← h.ker p h1]
      refine ⟨fun q => ?_, .inl⟩
      rcases q with q | ⟨m, hm, e⟩
      · exact q
      · have := new_bit hq hs' (h.lt m hm)
        rw [e, Nat.testBit_lt_two_pow h1] at this
        cases this
    · rw [pic_xor, h0, Nat.xor_zero, ← h.ker p' h1]
      constructor
      · rintro (q | ⟨m, hm, e⟩)
        · have h2 := h.lt _ q
          have := new_bit hq hs' h1
          rw [Nat.testBit_lt_two_pow h2] at this
          cases this
        · rw [← xor_cancel e]; exact hm
      · exact fun q => .inr ⟨p', q, rfl⟩
  lt := fun p hp => by
    rw [sums_app, List.mem_append, List.mem_map] at hp
    rcases hp with hp | ⟨m, hm, rfl⟩
    · exact two_up (h.lt p hp)
    · exact Nat.xor_lt_two_pow (two_up (h.lt m hm)) (new_lt hq hs')
  snd := by
    rw [sums_app, List.nodup_append]
    refine ⟨h.snd, List.pairwise_map.mpr (h.snd.imp fun ne e => ne (xor_cancel e)), fun a ha b hb e => ?_⟩
    obtain ⟨m, hm, rfl⟩ := List.mem_map.mp hb
    have := new_bit hq hs' (h.lt m hm)
    rw [← e, Nat.testBit_lt_two_pow (h.lt a ha)] at this
    cases this
theorem Heads.head_more (h : Heads r n k hs idle) {q s : Nat} (hq : q = 2 ^ k ^^^ s) (hs' : s < 2 ^ k) (h0 : pic r n q ≠ 0) (hn : ∀ e ∈ hs, e.1 ≠ hgt (pic r n q)) : Heads r n (k + 1) (hs ++ [(hgt (pic r n q), pic r n q, q)]) idle where
  hd := fun e he => by
    rcases List.mem_append.mp he with he | he
    · obtain ⟨a, b, c, d⟩ := h.hd e he
      exact ⟨a, b, two_up c, d⟩
    · rw [List.mem_singleton.mp he]
      exact ⟨h0, rfl, new_lt hq hs', rfl⟩
  idl := fun p hp => by
    obtain ⟨a, b⟩ := h.idl p hp; exact ⟨two_up a, b⟩
  img := fun p hp hne => by
    rcases split_bit hq hs' hp with h1 | ⟨p', h1, rfl⟩
    · obtain ⟨e, he, q⟩ := h.img p h1 hne
      exact ⟨e, List.mem_append_left _ he, q⟩
    · rw [pic_xor]
      by_cases hz : pic r n p' = 0
      · exact ⟨_, List.mem_append_right _ (List.mem_singleton.mpr rfl), by rw [hz, Nat.zero_xor]⟩
      · obtain ⟨e, he, q'⟩ := h.img p' h1 hz
        have ne := hn e he
        rw [q'] at ne
        rcases Nat.lt_or_gt_of_ne ne with hl | hl
        · exact ⟨_, List.mem_append_right _ (List.mem_singleton.mpr rfl), (hgt_xor_eq hl).symm⟩
        · exact ⟨e, List.mem_append_left _ he, by rw [q', Nat.xor_comm]; exact (hgt_xor_eq hl).symm⟩
  ker := fun p hp => by
    rcases split_bit hq hs' hp with h1 | ⟨p', h1, rfl⟩
    · exact h.ker p h1
    · have hb := new_bit hq hs' h1
      constructor
      · intro q
        rw [Nat.testBit_lt_two_pow (h.lt _ q)] at hb
        cases hb
      · intro q2
        rw [pic_xor] at q2
        have e : pic r n p' = pic r n q := xor_cancel (c := pic r n q) (by rw [q2, Nat.xor_self])
        obtain ⟨e', he, q'⟩ := h.img p' h1 (by rw [e]; exact h0)
        rw [e] at q'
        exact absurd q' (hn e' he)
  lt := fun p hp => two_up (h.lt p hp)
  snd := h.snd
end
end Lmp
/-! ### figures and sets -/
namespace Lmp
open PySem L2 Mir
theorem xor_and_add : ∀ (k a b : Nat), a < 2 ^ k → b < 2 ^ k → (a ^^^ b) + 2 * (a &&& b) = a + b
  | 0, a, b, ha, hb => by
    have : a = 0 := by omega
    have : b = 0 := by omega
    subst a b; rfl
  | k + 1, a, b, ha, hb => by
    have ih := xor_and_add k (a / 2) (b / 2) (by rw [Nat.pow_succ] at ha; omega) (by rw [Nat.pow_succ] at hb; omega)
    have h1 : (a ^^^ b) / 2 = a / 2 ^^^ b / 2 := Nat.xor_div_two
    have h2 : (a &&& b) / 2 = a / 2 &&& b / 2 := Nat.and_div_two
    have h3 : (a ^^^ b) % 2 = (a % 2) ^^^ (b % 2) := Nat.xor_mod_two_pow (n := 1)
    have h4 : (a &&& b) % 2 = (a % 2) &&& (b % 2) := Nat.and_mod_two_pow (n := 1)
    rw [← h1, ← h2] at ih
    clear h1 h2 ha hb
    generalize a ^^^ b = x at *
    generalize a &&& b = y at *
    have ea : a % 2 = 0 ∨ a % 2 = 1 := by omega
    have eb : b % 2 = 0 ∨ b % 2 = 1 := by omega
    rcases ea with ea | ea <;> rcases eb with eb | eb <;> rw [ea, eb] at h3 h4 <;> simp at h3 h4 <;> omega
theorem bxor_eq (a b : Nat) : bXor (a : Int) (b : Int) = ((a ^^^ b : Nat) : Int) := by
  unfold bXor
  rw [PyProof.Rows.bitXor_and]
  have e : Builtin.bitAnd (a : Int) (b : Int) = ((a &&& b : Nat) : Int) := by
    unfold Builtin.bitAnd
    simp
  rw [e]
  have := xor_and_add (max (hgt a) (hgt b)) a b (Nat.lt_of_lt_of_le (lt_hgt a) (Nat.pow_le_pow_right (by decide) (Nat.le_max_left ..))) (Nat.lt_of_lt_of_le (lt_hgt b) (Nat.pow_le_pow_right (by decide) (Nat.le_max_right ..)))
  generalize a ^^^ b = x at *
  generalize a &&& b = y at *
  omega
theorem two_cast (k : Nat) : ((2 : Int) ^ k) = ((2 ^ k : Nat) : Int) := by rw [Int.natCast_pow]; rfl
theorem shl_eq {k : Int} (h : 0 ≤ k ∧ k ≤ 1000000) : shlO 1 k = some ((2 ^ k.toNat : Nat) : Int) := by
  unfold shlO
  have : shiftOk 1 k = true := by
    unfold shiftOk
    rw [decide_eq_true h.1, decide_eq_true h.2]
    decide +kernel
  rw [if_pos this, Int.one_mul, two_cast]
theorem shr_eq {m : Nat} {k : Int} (h : 0 ≤ k) : shrO (m : Int) k = some ((m / 2 ^ k.toNat : Nat) : Int) := by
  unfold shrO
  rw [if_pos h, two_cast, ← Int.natCast_ediv]
/-- the places of a mask -/
def bl : Nat → Nat → List Int
  | 0, _ => []
  | k + 1, m => if m.testBit k then bl k m ++ [(k : Int)] else bl k m
theorem mem_bl {m : Nat} {x : Int} : ∀ {k : Nat}, x ∈ bl k m ↔ 0 ≤ x ∧ x < k ∧ m.testBit x.toNat = true
  | 0 => by
    unfold bl
    constructor
    · intro h; cases h
    · intro h; omega
  | k + 1 => by
    unfold bl
    by_cases h : m.testBit k = true
    · rw [if_pos h, List.mem_append, mem_bl, List.mem_singleton]
      constructor
      · rintro (⟨a, b, c⟩ | rfl)
        · exact ⟨a, by omega, c⟩
        · exact ⟨by omega, by omega, by simpa using h⟩
      · rintro ⟨a, b, c⟩
        by_cases e : x = k
        · exact .inr e
        · exact .inl ⟨a, by omega, c⟩
    · rw [if_neg h, mem_bl]
      constructor
      · rintro ⟨a, b, c⟩; exact ⟨a, by omega, c⟩
      · rintro ⟨a, b, c⟩
        refine ⟨a, ?_, c⟩
        by_cases e : x = k
        · subst e; exact absurd (by simpa using c) h
        · omega
theorem bl_lt : ∀ (k m : Nat), (bl k m).Pairwise (· < ·)
  | 0, m => .nil
  | k + 1, m => by
    unfold bl
    split
    · rw [List.pairwise_append]
      refine ⟨bl_lt k m, List.pairwise_singleton _ _, fun a ha b hb => ?_⟩
      rw [List.mem_singleton.mp hb]
      exact (mem_bl.mp ha).2.1
    · exact bl_lt k m
theorem bl_up {k n m : Nat} (h : m < 2 ^ k) (hn : k ≤ n) : bl n m = bl k m := by
  refine lt_unique (bl_lt n m) (bl_lt k m) fun x => ?_
  rw [mem_bl, mem_bl]
  constructor
  · rintro ⟨a, b, c⟩
    refine ⟨a, ?_, c⟩
    refine Int.lt_of_not_ge fun q => ?_
    rw [Nat.testBit_lt_two_pow (Nat.lt_of_lt_of_le h (Nat.pow_le_pow_right (by decide) (by omega : k ≤ x.toNat)))] at c
    cases c
  · rintro ⟨a, b, c⟩; exact ⟨a, by omega, c⟩
theorem bl_len : ∀ (k m : Nat), (bl k m).length ≤ k
  | 0, m => Nat.le_refl _
  | k + 1, m => by
    unfold bl
    have := bl_len k m
    split
    · rw [List.length_append, List.length_singleton]; omega
    · omega
theorem bl_inj {n a b : Nat} (ha : a < 2 ^ n) (hb : b < 2 ^ n) (h : bl n a = bl n b) : a = b := by
  refine Nat.eq_of_testBit_eq fun i => ?_
  by_cases hi : i < n
  · have h1 := mem_bl (m := a) (x := (i : Int)) (k := n)
    have h2 := mem_bl (m := b) (x := (i : Int)) (k := n)
    rw [h] at h1
    have h3 := h1.symm.trans h2
    simp only [Int.toNat_natCast] at h3
    cases q : a.testBit i with
    | true => exact (h3.mp ⟨by omega, by omega, q⟩).2.2.symm
    | false => cases q2 : b.testBit i with
      | false => rfl
      | true => rw [q] at h3; have := (h3.mpr ⟨by omega, by omega, q2⟩).2.2; cases this
  · rw [Nat.testBit_lt_two_pow (Nat.lt_of_lt_of_le ha (Nat.pow_le_pow_right (by decide) (by omega))), Nat.testBit_lt_two_pow (Nat.lt_of_lt_of_le hb (Nat.pow_le_pow_right (by decide) (by omega)))]
/-- the mask of a set -/
def mk (S : List Int) : Nat := (S.map fun x => 2 ^ x.toNat).sum
theorem mk_bl : ∀ (k m : Nat), mk (bl k m) = m % 2 ^ k
  | 0, m => by
    rw [Nat.pow_zero, Nat.mod_one]
    rfl
  | k + 1, m => by
    have ih := mk_bl k m
    have e : m % 2 ^ (k + 1) = m % 2 ^ k + 2 ^ k * (m / 2 ^ k % 2) := by rw [Nat.pow_succ, Nat.mod_mul]
    have e2 : m.testBit k = decide (m / 2 ^ k % 2 = 1) := Nat.testBit_eq_decide_div_mod_eq
    unfold bl
    by_cases h : m.testBit k = true
    · rw [if_pos h, e]
      rw [e2, decide_eq_true_eq] at h
      rw [h, Nat.mul_one, ← ih]
      unfold mk
      rw [List.map_append, List.sum_append]
      simp
    · rw [if_neg h, e]
      rw [e2, decide_eq_true_eq] at h
      have : m / 2 ^ k % 2 = 0 := by omega
      rw [this, Nat.mul_zero, Nat.add_zero, ih]
theorem mk_bl_lt {k m : Nat} (h : m < 2 ^ k) : mk (bl k m) = m := by rw [mk_bl, Nat.mod_eq_of_lt h]
/-- each set of places in line is a mask's -/
theorem bl_of {n : Nat} : ∀ (k : Nat), k ≤ n → ∀ {S : List Int}, S.Pairwise (· < ·) → (∀ x ∈ S, 0 ≤ x ∧ x < k) → ∃ m, m < 2 ^ k ∧ bl k m = S
  | 0, _, S, _, h => by
    cases S with
    | nil => exact ⟨0, by decide, rfl⟩
    | cons x S => have := h x List.mem_cons_self; omega
  | k + 1, hk, S, hp, h => by
    by_cases hm : (k : Int) ∈ S
    · obtain ⟨m, hm1, hm2⟩ := bl_of (n := n) k (by omega) (S := S.filter fun x : Int => decide (x < (k : Int))) (hp.filter _) fun x hx => by
        obtain ⟨a, b⟩ := List.mem_filter.mp hx
        exact ⟨(h x a).1, of_decide_eq_true b⟩
      have ht : (m ^^^ 2 ^ k).testBit k = true := by rw [Nat.testBit_xor, Nat.testBit_lt_two_pow hm1, Nat.testBit_two_pow_self]; rfl
      have hl : m ^^^ 2 ^ k < 2 ^ (k + 1) := Nat.xor_lt_two_pow (two_up hm1) (Nat.pow_lt_pow_right (by decide) (by omega))
      refine ⟨m ^^^ 2 ^ k, hl, lt_unique (bl_lt _ _) hp fun x => ?_⟩
      rw [mem_bl]
      by_cases e : x = k
      · subst e
        exact ⟨fun _ => hm, fun _ => ⟨by omega, by omega, by simpa using ht⟩⟩
      · have h1 : x ∈ S.filter (fun x : Int => decide (x < (k : Int))) ↔ 0 ≤ x ∧ x < k ∧ m.testBit x.toNat = true := by rw [← hm2]; exact mem_bl
        rw [List.mem_filter, decide_eq_true_eq] at h1
        constructor
        · rintro ⟨a, b, c⟩
          refine (h1.mpr ⟨a, by omega, ?_⟩).1
          rw [Nat.testBit_xor, Nat.testBit_two_pow, decide_eq_false (by omega)] at c
          simpa using c
        · intro hx
          have hx' := h x hx
          obtain ⟨a, b, c⟩ := h1.mp ⟨hx, by omega⟩
          refine ⟨a, by omega, ?_⟩
          rw [Nat.testBit_xor, Nat.testBit_two_pow, decide_eq_false (by omega), c]
          rfl
    · obtain ⟨m, hm1, hm2⟩ := bl_of (n := n) k (by omega) hp fun x hx => by
        have := h x hx
        refine ⟨this.1, ?_⟩
        have : x ≠ k := fun e => hm (e ▸ hx)
        omega
      refine ⟨m, two_up hm1, ?_⟩
      unfold bl
      rw [if_neg (by rw [Nat.testBit_lt_two_pow hm1]; simp)]
      exact hm2
end Lmp
namespace Prog
open PySem L2 Mir Lmp
theorem nodup_le {α : Type} [DecidableEq α] : ∀ {D E : List α}, D.Nodup → (∀ x ∈ D, x ∈ E) → D.length ≤ E.length
  | [], _, _, _ => Nat.zero_le _
  | x :: D, E, hd, h => by
    obtain ⟨d1, d2⟩ := List.nodup_cons.mp hd
    have hx := h x List.mem_cons_self
    have ih := nodup_le (E := E.erase x) d2 fun y hy => (List.mem_erase_of_ne (fun (e : y = x) => d1 (e ▸ hy))).mpr (h y (List.mem_cons_of_mem _ hy))
    rw [List.length_erase_of_mem hx] at ih
    have := List.length_pos_of_mem hx
    rw [List.length_cons]
    omega
theorem nodup_rng_len {n : Int} {D : List Int} (hd : D.Nodup) (h : ∀ x ∈ D, 0 ≤ x ∧ x < n) : D.length ≤ n.toNat := by
  have := nodup_le hd fun x hx => mem_rng.mpr (h x hx)
  rw [rng_len] at this
  simpa using this
/-! ### the small defs of lamps -/
theorem bl_any {j k m : Nat} (h : m < 2 ^ j) (h' : m < 2 ^ k) : bl j m = bl k m := by
  rcases Nat.le_total j k with q | q
  · exact (bl_up h q).symm
  · exact bl_up h' q
theorem mk_cast (S : List Int) : ((mk S : Nat) : Int) = (S.map fun x => ((2 ^ x.toNat : Nat) : Int)).sum := by
  induction S with
  | nil => rfl
  | cons x S ih =>
    rw [List.map_cons, List.sum_cons, ← ih]
    unfold mk
    rw [List.map_cons, List.sum_cons]
    exact Int.natCast_add _ _
theorem figure_eq {S : List Int} (h : ∀ x ∈ S, 0 ≤ x ∧ x ≤ 1000000) : m_figure_of S = some ((mk S : Nat) : Int) := by
  unfold m_figure_of
  rw [mapO_eq (f := fun x : Int => ((2 ^ x.toNat : Nat) : Int)) fun x hx => Lmp.shl_eq (h x hx), Option.map_some, mk_cast]
theorem figureT_eq {S : List Int} (h : ∀ x ∈ S, 0 ≤ x ∧ x ≤ 1000000) : m_figure_of_T S = some ((mk S : Nat) : Int) := figure_eq h
theorem mk_bit {n : Nat} {S : List Int} (hp : S.Pairwise (· < ·)) (h : ∀ x ∈ S, 0 ≤ x ∧ x < n) : mk S < 2 ^ n ∧ bl n (mk S) = S ∧ ∀ i : Nat, i < n → ((mk S).testBit i = true ↔ (i : Int) ∈ S) := by
  obtain ⟨m, hm, e⟩ := bl_of (n := n) n (Nat.le_refl _) hp h
  have e2 : mk S = m := by rw [← e, mk_bl_lt hm]
  rw [e2]
  refine ⟨hm, e, fun i hi => ?_⟩
  rw [← e, mem_bl]
  constructor
  · intro q; exact ⟨by omega, by omega, by simpa using q⟩
  · rintro ⟨_, _, q⟩; simpa using q
theorem div_pos_iff {m j : Nat} : decide (((m / 2 ^ j : Nat) : Int) > 0) = decide (j < hgt m) := by
  have h : ¬ hgt m ≤ j ↔ ¬ m < 2 ^ j := not_congr hgt_le
  have h2 : 0 < m / 2 ^ j ↔ 2 ^ j ≤ m := Nat.div_pos_iff.trans ⟨fun h => h.2, fun h => ⟨Nat.two_pow_pos j, h⟩⟩
  refine decide_eq_decide.mpr ?_
  constructor
  · intro q
    have : 0 < m / 2 ^ j := by omega
    have := h2.mp this
    omega
  · intro q
    have : 2 ^ j ≤ m := Nat.le_of_not_lt (h.mp (by omega))
    have := h2.mpr this
    omega
theorem height_eq {fu m : Nat} (h : hgt m < fu) : m_height fu (m : Int) = some (hgt m : Int) := by
  unfold m_height
  dsimp only
  refine Ho.eq (Ho.bind (P := fun s => s = (hgt m : Int)) ?_ fun s h => ho_some h)
  refine ho_loop (Inv := fun s : Int => ∃ j : Nat, s = j ∧ j ≤ hgt m) (fun s => hgt m - s.toNat) (fun s hs => ?_) ⟨0, rfl, Nat.zero_le _⟩ (by show hgt m - 0 < fu; omega)
  obtain ⟨j, rfl, hj⟩ := hs
  rw [Lmp.shr_eq (by omega), Option.bind_some, Int.toNat_natCast, div_pos_iff]
  refine ho_some ?_
  by_cases q : j < hgt m
  · rw [decide_eq_true q, if_pos rfl]
    refine ho_some ⟨⟨j + 1, rfl, q⟩, ?_⟩
    show hgt m - ((j : Int) + 1).toNat < hgt m - ((j : Int)).toNat
    omega
  · rw [decide_eq_false q, if_neg (by simp)]
    omega
theorem set_eq {fu m k : Nat} (hm : m < 2 ^ k) (h : k < fu) (hk : k ≤ 1000000) : m_set_of fu (m : Int) = some (bl k m) := by
  have hh : hgt m ≤ k := hgt_le.mpr hm
  unfold m_set_of
  dsimp only
  refine Ho.eq (Ho.bind (P := fun s : Int × Int × List Int => s.2.2 = bl k m) ?_ fun s h => ?_)
  rotate_left
  · have := bl_len k m
    rw [h, tupO_eq (by omega)]
    exact ho_some rfl
  refine ho_loop (Inv := fun s : Int × Int × List Int => ∃ j : Nat, j ≤ hgt m ∧ s = (((m / 2 ^ j : Nat) : Int), (j : Int), bl j m)) (fun s => hgt m - s.2.1.toNat) (fun s hs => ?_) ⟨0, Nat.zero_le _, by simp [bl]⟩ (by show hgt m - 0 < fu; omega)
  obtain ⟨j, hj, rfl⟩ := hs
  dsimp only
  rw [div_pos_iff]
  refine ho_some ?_
  by_cases q : j < hgt m
  · rw [decide_eq_true q, if_pos rfl]
    have e1 : decide ((((m / 2 ^ j : Nat) : Int) % 2) = 1) = m.testBit j := by
      rw [Nat.testBit_eq_decide_div_mod_eq]
      exact decide_eq_decide.mpr (by omega)
    have e2 : (if decide ((((m / 2 ^ j : Nat) : Int) % 2) = 1) then (appO (bl j m) (j : Int)).bind fun told1 => some told1 else some (bl j m)) = some (bl (j + 1) m) := by
      rw [e1]
      show _ = some (if m.testBit j then bl j m ++ [(j : Int)] else bl j m)
      cases m.testBit j
      · rfl
      · have := bl_len j m
        rw [if_pos rfl, if_pos rfl, appO_eq (by omega)]
        rfl
    rw [e2, Option.bind_some]
    refine ho_some ⟨⟨j + 1, q, ?_⟩, ?_⟩
    · rw [Nat.pow_succ, ← Nat.div_div_eq_div_mul, Int.natCast_ediv]
      rfl
    · show hgt m - ((j : Int) + 1).toNat < hgt m - ((j : Int)).toNat
      omega
  · rw [decide_eq_false q, if_neg (by simp)]
    exact bl_any (hgt_le.mp (by omega)) hm
section
variable {n : Nat} {ties : List (Int × Int)}
def wd (ties : List (Int × Int)) (x : Int) : List Int := (nbr ties x ++ [x]).mergeSort leI
theorem beside_eq (x : Int) : m_beside ties x = some (nbr ties x) := by
  unfold m_beside nbr
  rw [filtO_eq (p := fun t : Int × Int => decide (x ∈ [t.1, t.2])) (f := fun t : Int × Int => t.1 + t.2 - x) (fun _ _ => rfl) fun _ _ _ => rfl]
  rfl
structure Wb (n : Nat) (ties : List (Int × Int)) : Prop where
  w : Web n ties
  nd : ties.Nodup
  n1 : n ≤ 100
variable (W : Wb n ties)
include W
theorem nbr_rg {x y : Int} (h : y ∈ nbr ties x) : 0 ≤ y ∧ y < n ∧ 0 ≤ x ∧ x < n ∧ x ≠ y := by
  rcases mem_nbr.mp h with h | h
  · have := W.w.rg _ h; dsimp only at this; omega
  · have := W.w.rg _ h; dsimp only at this; omega
theorem nbr_short (x : Int) : (nbr ties x).length ≤ 100 := by
  have := nodup_rng_len (nbr_nodup W.w W.nd x) (fun y hy => by have := nbr_rg W hy; exact ⟨this.1, this.2.1⟩)
  have := W.n1
  omega
theorem mem_wd {x y : Int} : y ∈ wd ties x ↔ y = x ∨ y ∈ nbr ties x := by
  unfold wd
  rw [mem_ms, List.mem_append, List.mem_singleton]
  exact Or.comm
theorem wd_lt (x : Int) : (wd ties x).Pairwise (· < ·) := by
  refine ms_lt ?_
  rw [List.nodup_append]
  refine ⟨nbr_nodup W.w W.nd x, by simp, fun a ha b hb e => ?_⟩
  have : b = x := by simpa using hb
  have := nbr_rg W ha
  omega
theorem ward_eq (x : Int) : m_ward ties x = some (wd ties x) := by
  unfold m_ward
  have := nbr_short W x
  rw [beside_eq, Option.bind_some, catO_eq (by show (nbr ties x).length + 1 ≤ _; omega)]
  rfl
omit W in
def row (ties : List (Int × Int)) (i : Nat) : Nat := mk (wd ties (i : Int))
theorem row_bit {i j : Nat} (hi : i < n) (hj : j < n) : (row ties i).testBit j = true ↔ j = i ∨ (j : Int) ∈ nbr ties (i : Int) := by
  rw [row, (mk_bit (n := n) (wd_lt W i) fun x hx => by
    rcases (mem_wd W).mp hx with e | h
    · omega
    · have := nbr_rg W h; omega).2.2 j hj, mem_wd W]
  constructor
  · rintro (h | h)
    · exact .inl (by omega)
    · exact .inr h
  · rintro (h | h)
    · exact .inl (by omega)
    · exact .inr h
theorem row_sym : Sym (row ties) n where
  lt := fun i hi => (mk_bit (n := n) (wd_lt W i) fun x hx => by
    rcases (mem_wd W).mp hx with e | h
    · omega
    · have := nbr_rg W h; omega).1
  sym := fun i j hi hj => by
    rw [Bool.eq_iff_iff, row_bit W hi hj, row_bit W hj hi, mem_nbr, mem_nbr]
    constructor
    · rintro (h | h | h)
      · exact .inl h.symm
      · exact .inr (.inr h)
      · exact .inr (.inl h)
    · rintro (h | h | h)
      · exact .inl h.symm
      · exact .inr (.inr h)
      · exact .inr (.inl h)
  one := fun i hi => (row_bit W hi hi).mpr (.inl rfl)
theorem made_by_eq : m_made_by n ties = some ((rng 0 n).map fun x => ((row ties x.toNat : Nat) : Int)) := by
  have := W.n1
  unfold m_made_by
  rw [rngL_eq (by omega) (by omega) (by omega), Option.bind_some]
  refine mapO_eq fun x hx => ?_
  have hx := mem_rng.mp hx
  rw [ward_eq W, Option.bind_some, figure_eq fun y hy => by
    rcases (mem_wd W).mp hy with e | h
    · omega
    · have := nbr_rg W h; omega]
  unfold row
  rw [Int.toNat_of_nonneg hx.1]
def px (r : Nat → Nat) (S : List Int) : Nat := S.foldl (fun m x => m ^^^ r x.toNat) 0
omit W in
theorem px_app (r : Nat → Nat) (S : List Int) (x : Int) : px r (S ++ [x]) = px r S ^^^ r x.toNat := by unfold px; rw [List.foldl_append]; rfl
omit W in
theorem px_bl (r : Nat → Nat) : ∀ (k p : Nat), px r (bl k p) = pic r k p
  | 0, p => rfl
  | k + 1, p => by
    show px r (if p.testBit k then bl k p ++ [(k : Int)] else bl k p) = if p.testBit k then pic r k p ^^^ r k else pic r k p
    split
    · rw [px_app, px_bl r k p]; rfl
    · exact px_bl r k p
theorem px_lt {S : List Int} (h : ∀ x ∈ S, 0 ≤ x ∧ x < n) : px (row ties) S < 2 ^ n := by
  suffices q : ∀ (S : List Int) (m : Nat), (∀ x ∈ S, 0 ≤ x ∧ x < n) → m < 2 ^ n → S.foldl (fun m x => m ^^^ row ties x.toNat) m < 2 ^ n from q S 0 h (Nat.two_pow_pos n)
  intro S
  induction S with
  | nil => intro m _ hm; exact hm
  | cons x S ih =>
    intro m h hm
    rw [List.foldl_cons]
    have := h x List.mem_cons_self
    exact ih _ (fun y hy => h y (List.mem_cons_of_mem _ hy)) (Nat.xor_lt_two_pow hm ((row_sym W).lt _ (by omega)))
theorem rows_at {x : Int} (h : 0 ≤ x ∧ x < n) : atO ((rng 0 n).map fun x => ((row ties x.toNat : Nat) : Int)) x = some ((row ties x.toNat : Nat) : Int) := by
  obtain ⟨v, e, _, h2⟩ := at_ho (xs := (rng 0 n).map fun x => ((row ties x.toNat : Nat) : Int)) (i := x) h.1 (by rw [List.length_map, rng_len]; omega)
  rw [e, ← h2, List.getElem?_map, rng_get (by omega)]
  rfl
theorem picture_eq {fu : Nat} (hf : n < fu) {S : List Int} (h : ∀ x ∈ S, 0 ≤ x ∧ x < n) : m_picture_of fu n ties S = some (bl n (px (row ties) S)) := by
  have hn := W.n1
  unfold m_picture_of
  rw [made_by_eq W, Option.bind_some]
  dsimp only
  refine Ho.eq (Ho.bind (P := fun s => s = ((px (row ties) S : Nat) : Int)) ?_ fun s e => ?_)
  · refine (ho_foldI (Inv := fun p s => s = ((px (row ties) p : Nat) : Int)) (pre := []) rfl fun p x s ⟨q, e⟩ i => ?_).mono fun s h => h
    rw [rows_at W (h x (by rw [List.nil_append] at e; rw [e]; simp)), Option.bind_some, i, bxor_eq, Option.bind_some, px_app]
    exact ho_some rfl
  · rw [e, set_eq (px_lt W h) hf (by omega)]
    exact ho_some rfl
end
end Prog
namespace Prog
open PySem L2 Mir Lmp
def hI (e : Nat × Nat × Nat) : Int × Int × Int := ((e.1 : Int), (e.2.1 : Int), (e.2.2 : Int))
theorem dget_hI (hs : List (Nat × Nat × Nat)) (h : Nat) : (dget (hs.map hI) (h : Int) = none ∧ ∀ e ∈ hs, e.1 ≠ h) ∨ ∃ e ∈ hs, e.1 = h ∧ dget (hs.map hI) (h : Int) = some ((e.2.1 : Int), (e.2.2 : Int)) := by
  have e0 : dget (hs.map hI) (h : Int) = (hs.find? fun e => decide (e.1 = h)).map fun e => ((e.2.1 : Int), (e.2.2 : Int)) := by
    unfold dget
    rw [List.find?_map, Option.map_map]
    have : ((fun q : Int × Int × Int => decide (q.1 = (h : Int))) ∘ hI) = fun e => decide (e.1 = h) := by
      funext e
      exact decide_eq_decide.mpr (by show (e.1 : Int) = h ↔ _; omega)
    rw [this]
    rfl
  rw [e0]
  cases q : hs.find? fun e => decide (e.1 = h) with
  | none =>
    left
    refine ⟨rfl, fun e he => ?_⟩
    have := List.find?_eq_none.mp q e he
    simpa using this
  | some e =>
    right
    exact ⟨e, List.mem_of_find?_eq_some q, by simpa using List.find?_some q, rfl⟩
theorem enum_app {α : Type} (xs : List α) (x : α) : enumI (xs ++ [x]) = enumI xs ++ [((xs.length : Int), x)] := by
  unfold enumI
  rw [List.length_append, List.length_singleton, List.range_succ, List.zip_append (by simp), List.map_append]
  rfl
theorem ho_enum {α S : Type} {f : S → Int × α → Option S} {Inv : Nat → S → Prop} {xs : List α} {s : S} (h0 : Inv 0 s) (h : ∀ (k : Nat) x s, xs[k]? = some x → Inv k s → Ho (f s ((k : Int), x)) (Inv (k + 1))) : Ho (foldO f (enumI xs) s) (Inv xs.length) := by
  have := ho_foldI (f := f) (Inv := fun p s => Inv p.length s) (xs := enumI xs) (pre := []) (s := s) h0 fun p x s ⟨q, e⟩ i => by
    rw [List.nil_append] at e
    have hg : (enumI xs)[p.length]? = some x := by rw [e]; simp
    obtain ⟨y, hy, rfl⟩ := enumI_get hg
    rw [List.length_append]
    exact h _ y s hy i
  rw [List.nil_append, enumI_length] at this
  exact this
section
variable {n : Nat} {ties : List (Int × Int)} (W : Wb n ties)
include W
theorem hgt_pic (q : Nat) : hgt (pic (row ties) n q) ≤ n := hgt_le.mpr (pic_lt (row_sym W).lt q)
def SInv (n : Nat) (ties : List (Int × Int)) (k : Nat) (s : List (Int × Int × Int) × List Int) : Prop :=
  ∃ (hs : List (Nat × Nat × Nat)) (idle : List Nat), s.1 = hs.map hI ∧ s.2 = idle.map (fun m : Nat => (m : Int)) ∧ Heads (row ties) n k hs idle ∧ hs.length + idle.length = k
theorem settled_ho {fu : Nat} (hf : n < fu) : Ho (m_settled fu n ties) (SInv n ties n) := by
  have hn := W.n1
  unfold m_settled
  dsimp only
  rw [made_by_eq W, Option.map_some, Option.bind_some]
  refine Ho.bind (P := SInv n ties n) ?_ fun s h => ho_some h
  have hl : ((rng 0 (n : Int)).map fun x => ((row ties x.toNat : Nat) : Int)).length = n := by rw [List.length_map, rng_len]; omega
  have key := ho_enum (α := Int) (S := List (Int × Int × Int) × List Int) (xs := (rng 0 (n : Int)).map fun x => ((row ties x.toNat : Nat) : Int)) (Inv := SInv n ties) (s := ([], [])) (f := fun (s1 : (List (Int × (Int × Int))) × (List Int)) (x : Int × Int) => (shlO 1 x.1).bind fun presses => (loopO (fun (s2 : Int × Int) => if (decide (s2.1 > 0)) then (m_height fu s2.1).map fun u1 => (dget s1.1 u1).isSome else some false) (fun (s2 : Int × Int) => ((m_height fu s2.1).bind fun u2 => dget s1.1 u2).bind fun q => some (let q1 : Int × Int := (bXor s2.1 q.1, bXor s2.2 q.2); (q1.1, q1.2))) fu (x.2, presses)).bind fun s3 => if (decide (s3.1 > 0)) then ((m_height fu s3.1).bind fun u3 => dputO s1.1 u3 (s3.1, s3.2)).bind fun heads1 => some ((heads1, s1.2)) else (appO s1.2 s3.2).bind fun idle1 => some ((s1.1, idle1)))
    ⟨[], [], rfl, rfl, heads_nil, rfl⟩ ?_
  · rw [hl] at key
    exact key
  intro k x s hx hi
  have hk : k < n := by
    have := (List.getElem?_eq_some_iff.mp hx).1
    omega
  rw [List.getElem?_map, rng_get (by omega), Option.map_some, Option.some.injEq] at hx
  subst hx
  obtain ⟨hs, idle, h1, h2, h3, h4⟩ := hi
  obtain ⟨s1, s2⟩ := s
  dsimp only at h1 h2
  subst h1 h2
  dsimp only
  rw [Lmp.shl_eq (by omega), Option.bind_some]
  simp only [Int.toNat_natCast]
  refine Ho.bind (P := fun s3 : Int × Int => ∃ q t : Nat, q = 2 ^ k ^^^ t ∧ t < 2 ^ k ∧ s3 = (((pic (row ties) n q : Nat) : Int), (q : Int)) ∧ (pic (row ties) n q ≠ 0 → ∀ e ∈ hs, e.1 ≠ hgt (pic (row ties) n q))) ?_ fun s3 h5 => ?_
  · refine ho_loop (Inv := fun s3 : Int × Int => ∃ q t : Nat, q = 2 ^ k ^^^ t ∧ t < 2 ^ k ∧ s3 = (((pic (row ties) n q : Nat) : Int), (q : Int))) (fun s3 => hgt s3.1.toNat) (fun s3 h5 => ?_) ⟨2 ^ k, 0, by rw [Nat.xor_zero], Nat.two_pow_pos k, by rw [pic_two _ hk]⟩ ?_
    · obtain ⟨q, t, e, ht, rfl⟩ := h5
      dsimp only
      have hh := hgt_pic W q
      by_cases hz : pic (row ties) n q = 0
      · rw [hz]
        refine ho_some ?_
        exact ⟨q, t, e, ht, by rw [hz], fun h => absurd hz h⟩
      · have hpos : decide (((pic (row ties) n q : Nat) : Int) > 0) = true := decide_eq_true (by omega)
        rw [hpos, if_pos rfl, height_eq (by omega), Option.map_some]
        refine ho_some ?_
        rcases dget_hI hs (hgt (pic (row ties) n q)) with ⟨g1, g2⟩ | ⟨e', he', g1, g2⟩
        · rw [g1]
          exact ⟨q, t, e, ht, rfl, fun _ => g2⟩
        · rw [g2, Option.isSome_some, if_pos rfl, Option.bind_some, g2, Option.bind_some]
          obtain ⟨a1, a2, a3, a4⟩ := h3.hd e' he'
          refine ho_some ?_
          dsimp only
          rw [bxor_eq, bxor_eq]
          refine ⟨⟨q ^^^ e'.2.2, t ^^^ e'.2.2, by rw [e, Nat.xor_assoc], Nat.xor_lt_two_pow ht a3, by rw [pic_xor, a4]⟩, ?_⟩
          show hgt (pic (row ties) n q ^^^ e'.2.1) < hgt (pic (row ties) n q)
          exact hgt_xor_lt hz (by rw [a2, g1])
    · show hgt (((row ties k : Nat) : Int)).toNat < fu
      rw [Int.toNat_natCast, ← pic_two (row ties) hk]
      have := hgt_pic W (2 ^ k)
      omega
  · obtain ⟨q, t, e, ht, rfl, h6⟩ := h5
    dsimp only
    have hh := hgt_pic W q
    by_cases hz : pic (row ties) n q = 0
    · rw [hz, if_neg (by simp), appO_eq (by rw [List.length_map]; omega), Option.bind_some]
      exact ho_some ⟨hs, idle ++ [q], rfl, by rw [List.map_append]; rfl, h3.idle_more e ht hz, by rw [List.length_append, List.length_singleton]; omega⟩
    · have hpos : decide (((pic (row ties) n q : Nat) : Int) > 0) = true := decide_eq_true (by omega)
      have hnew : ((hgt (pic (row ties) n q) : Nat) : Int) ∉ (hs.map hI).map (·.1) := by
        intro h
        rw [List.map_map, List.mem_map] at h
        obtain ⟨e', he', q'⟩ := h
        exact h6 hz e' he' (by
          have : ((e'.1 : Nat) : Int) = _ := q'
          omega)
      rw [hpos, if_pos rfl, height_eq (by omega), Option.bind_some]
      unfold dputO
      rw [if_pos (by rw [line_eq, List.length_map]; omega), Option.bind_some, dput_new hnew]
      exact ho_some ⟨hs ++ [(hgt (pic (row ties) n q), pic (row ties) n q, q)], idle, by rw [List.map_append]; rfl, rfl, h3.head_more e ht hz (h6 hz), by rw [List.length_append, List.length_singleton]; omega⟩
theorem presses_ho {fu : Nat} (hf : n < fu) {S : List Int} (hp : S.Pairwise (· < ·)) (h : ∀ x ∈ S, 0 ≤ x ∧ x < n) :
    Ho (m_presses_by fu n ties S) (fun o => (∃ p : Nat, p < 2 ^ n ∧ o = some (p : Int) ∧ pic (row ties) n p = mk S) ∨ (o = none ∧ ∀ p, p < 2 ^ n → pic (row ties) n p ≠ mk S)) := by
  have hn := W.n1
  obtain ⟨k1, _, _⟩ := mk_bit hp h
  unfold m_presses_by
  refine (settled_ho W hf).bind fun s hs => ?_
  obtain ⟨hs, idle, h1, h2, h3, h4⟩ := hs
  obtain ⟨s1, s2⟩ := s
  dsimp only at h1 h2
  subst h1 h2
  dsimp only
  rw [figureT_eq fun x hx => by have := h x hx; omega, Option.bind_some, Option.bind_some]
  dsimp only
  refine Ho.bind (P := fun r : Fx (Int × Int) (Option Int) => (r = .ex none ∧ ∀ p, p < 2 ^ n → pic (row ties) n p ≠ mk S) ∨ ∃ p : Nat, p < 2 ^ n ∧ r = .go (0, (p : Int)) ∧ pic (row ties) n p = mk S) ?_ fun r hr => ?_
  rotate_left
  · rcases hr with ⟨rfl, hr⟩ | ⟨p, hp', rfl, e⟩
    · exact ho_some (.inr ⟨rfl, hr⟩)
    · exact ho_some (.inl ⟨p, hp', rfl, e⟩)
  refine ho_while (Inv := fun s3 : Int × Int => ∃ p : Nat, p < 2 ^ n ∧ s3 = (((mk S ^^^ pic (row ties) n p : Nat) : Int), (p : Int))) (fun s3 => hgt s3.1.toNat) (fun s3 h5 => ?_) ⟨0, Nat.two_pow_pos n, by rw [pic_zero, Nat.xor_zero]; rfl⟩ ?_
  rotate_left
  · show hgt ((mk S : Nat) : Int).toNat < fu
    rw [Int.toNat_natCast]
    have := hgt_le.mpr k1
    omega
  obtain ⟨p, hp', rfl⟩ := h5
  dsimp only
  have hx := Nat.xor_lt_two_pow k1 (pic_lt (n := n) (row_sym W).lt p)
  have hh := hgt_le.mpr hx
  refine ho_some ?_
  by_cases hz : mk S ^^^ pic (row ties) n p = 0
  · rw [hz]
    refine .inr ⟨p, hp', rfl, ?_⟩
    exact (xor_cancel (c := pic (row ties) n p) (by rw [hz, Nat.xor_self])).symm
  · have hpos : decide (((mk S ^^^ pic (row ties) n p : Nat) : Int) > 0) = true := decide_eq_true (by omega)
    rw [hpos, if_pos rfl, height_eq (by omega), Option.bind_some, Option.bind_some]
    rcases dget_hI hs (hgt (mk S ^^^ pic (row ties) n p)) with ⟨g1, g2⟩ | ⟨e', he', g1, g2⟩
    · rw [g1]
      refine ho_some ?_
      refine .inl ⟨rfl, fun p' hp2 e => ?_⟩
      rw [← e, ← pic_xor] at hz g2
      obtain ⟨e', he', q⟩ := h3.img (p' ^^^ p) (Nat.xor_lt_two_pow hp2 hp') hz
      exact g2 e' he' q
    · rw [g2, Option.isSome_some, Bool.not_true, if_neg (by simp), Option.bind_some, g2, Option.bind_some]
      obtain ⟨a1, a2, a3, a4⟩ := h3.hd e' he'
      refine ho_some ?_
      dsimp only
      rw [bxor_eq, bxor_eq]
      refine ⟨⟨p ^^^ e'.2.2, Nat.xor_lt_two_pow hp' a3, by rw [pic_xor, a4, Nat.xor_assoc]⟩, ?_⟩
      show hgt (mk S ^^^ pic (row ties) n p ^^^ e'.2.1) < hgt (mk S ^^^ pic (row ties) n p)
      exact hgt_xor_lt hz (by rw [a2, g1])
end
end Prog
namespace Prog
open PySem L2 Mir Lmp
/-! ### idle sets, least presses -/
def Asc (n : Nat) (S : List Int) : Prop := S.Pairwise (· < ·) ∧ ∀ x ∈ S, 0 ≤ x ∧ x < n
theorem asc_bl (n m : Nat) : Asc n (bl n m) := ⟨bl_lt n m, fun x hx => by have := mem_bl.mp hx; omega⟩
theorem Asc.mask {n : Nat} {S : List Int} (h : Asc n S) : mk S < 2 ^ n ∧ bl n (mk S) = S := ⟨(mk_bit h.1 h.2).1, (mk_bit h.1 h.2).2.1⟩
theorem sums_mem_zero (L : List Nat) : 0 ∈ sums L := by
  suffices h : ∀ (L f : List Nat), 0 ∈ f → 0 ∈ L.foldl (fun f r => f ++ f.map fun m => m ^^^ r) f from h L [0] (by simp)
  intro L
  induction L with
  | nil => intro f h; exact h
  | cons a L ih => intro f h; exact ih _ (List.mem_append_left _ h)
theorem sums_of_eq {L : List Nat} (h : L.length ≤ 20) : m_sums_of (L.map fun m : Nat => (m : Int)) = some ((sums L).map fun m : Nat => (m : Int)) := by
  unfold m_sums_of
  dsimp only
  refine Ho.eq (Ho.bind (P := fun s => s = (sums L).map fun m : Nat => (m : Int)) ?_ fun s e => ?_)
  · have key := ho_foldI (f := fun (s1 : List Int) (row : Int) => ((mapO (fun (mask_ : Int) => some (bXor mask_ row)) s1).bind fun u => catO s1 u).bind fun found1 => some (found1)) (Inv := fun p s => ∃ P : List Nat, (∃ Q, L = P ++ Q) ∧ p = P.map (fun m : Nat => (m : Int)) ∧ s = (sums P).map fun m : Nat => (m : Int)) (xs := L.map fun m : Nat => (m : Int)) (pre := []) (s := [0]) ⟨[], ⟨L, rfl⟩, rfl, rfl⟩ ?_
    · refine key.mono fun s h => ?_
      obtain ⟨P, ⟨Q, e1⟩, e2, e3⟩ := h
      rw [List.nil_append] at e2
      have : L = P := List.map_inj_right (fun a b h => by omega) |>.mp e2
      rw [e3, this]
    · intro p x s ⟨q, e⟩ ⟨P, ⟨Q, e1⟩, e2, e3⟩
      rw [List.nil_append] at e
      have hQ : ∃ a Q', Q = a :: Q' ∧ x = (a : Int) := by
        rw [e1, List.map_append, e2] at e
        have := List.append_cancel_left e
        cases Q with
        | nil => cases this
        | cons a Q => exact ⟨a, Q, rfl, by injection this with h _; exact h.symm⟩
      obtain ⟨a, Q', rfl, rfl⟩ := hQ
      have hl : P.length < 20 := by have := congrArg List.length e1; rw [List.length_append, List.length_cons] at this; omega
      have hs : (sums P).length ≤ 2 ^ 19 := by rw [sums_len]; exact Nat.pow_le_pow_right (by decide) (by omega)
      rw [e3, mapO_eq (f := fun m : Int => bXor m (a : Int)) fun _ _ => rfl, Option.bind_some, catO_eq (by rw [List.length_map, List.length_map, List.length_map]; have : (2 : Nat) ^ 19 = 524288 := rfl; omega), Option.bind_some]
      refine ho_some ⟨P ++ [a], ⟨Q', by rw [e1, List.append_assoc]; rfl⟩, by rw [e2, List.map_append]; rfl, ?_⟩
      rw [sums_app, List.map_append, List.map_map, List.map_map]
      congr 1
      refine List.map_congr_left fun m _ => ?_
      exact bxor_eq m a
  · rw [e]; exact ho_some rfl
section
variable {n : Nat} {ties : List (Int × Int)} (W : Wb n ties)
include W
def Idle (n : Nat) (ties : List (Int × Int)) (K : List (List Int)) : Prop := K.Nodup ∧ ∀ S, S ∈ K ↔ Asc n S ∧ px (row ties) S = 0
omit W in
theorem Idle.perm {K K' : List (List Int)} (h : Idle n ties K) (h' : Idle n ties K') : K.Perm K' := (List.perm_ext_iff_of_nodup h.1 h'.1).mpr fun S => by rw [h.2, h'.2]
theorem pic_n (p : Nat) : pic (row ties) n p < 2 ^ n := pic_lt (row_sym W).lt p
omit W in
theorem asc_px {S : List Int} (h : Asc n S) : px (row ties) S = pic (row ties) n (mk S) := by
  rw [← px_bl, h.mask.2]
theorem heads_idle {hs : List (Nat × Nat × Nat)} {idle : List Nat} (h : Heads (row ties) n n hs idle) : Idle n ties ((sums idle).map (bl n)) := by
  refine ⟨?_, fun S => ?_⟩
  · refine List.pairwise_map.mpr (List.Pairwise.imp_of_mem (fun {a b} ha hb ne e => ne ?_) h.snd)
    exact bl_inj (h.lt a ha) (h.lt b hb) e
  · rw [List.mem_map]
    constructor
    · rintro ⟨m, hm, rfl⟩
      exact ⟨asc_bl n m, by rw [px_bl]; exact (h.ker m (h.lt m hm)).mp hm⟩
    · rintro ⟨h1, h2⟩
      refine ⟨mk S, (h.ker _ h1.mask.1).mpr (by rw [← asc_px h1]; exact h2), h1.mask.2⟩
theorem sets_map {fu : Nat} (hf : n < fu) {L : List Nat} (h : ∀ m ∈ L, m < 2 ^ n) : mapO (fun (mask_ : Int) => m_set_of fu mask_) (L.map fun m : Nat => (m : Int)) = some (L.map (bl n)) := by
  have hn := W.n1
  have e : L.map (bl n) = (L.map fun m : Nat => (m : Int)).map fun m => bl n m.toNat := by
    rw [List.map_map]
    refine List.map_congr_left fun m _ => ?_
    simp
  rw [e]
  refine mapO_eq fun x hx => ?_
  obtain ⟨m, hm, rfl⟩ := List.mem_map.mp hx
  rw [set_eq (h m hm) hf (by omega)]
  simp
theorem slack_ho {fu : Nat} (hf : n < fu) : Ho (m_slack fu n ties) (fun d => ∃ k : Nat, d = k ∧ k ≤ n ∧ ∃ K, Idle n ties K ∧ K.length = 2 ^ k) := by
  unfold m_slack
  obtain ⟨s, e, hs, idle, h1, h2, h3, h4⟩ := settled_ho W hf
  rw [e, Option.map_some, Option.map_some, h2, List.length_map]
  exact ho_some ⟨idle.length, rfl, by omega, _, heads_idle W h3, by rw [List.length_map, sums_len]⟩
theorem idle_ho {fu : Nat} (hf : n < fu) (hk : ∀ K, Idle n ties K → K.length ≤ 2 ^ 20) : Ho (m_idle_sets fu n ties) (fun L => ∃ K, Idle n ties K ∧ L = K.mergeSort leT) := by
  unfold m_idle_sets
  obtain ⟨s, e, hs, idle, h1, h2, h3, h4⟩ := settled_ho W hf
  have hi := heads_idle W h3
  have hl : idle.length ≤ 20 := by
    have := hk _ hi
    rw [List.length_map, sums_len] at this
    exact (Nat.pow_le_pow_iff_right (by decide)).mp this
  rw [e, Option.map_some, Option.bind_some, h2, sums_of_eq hl, Option.bind_some, sets_map W hf h3.lt, Option.map_some]
  exact ho_some ⟨_, hi, rfl⟩
def Makes (n : Nat) (ties : List (Int × Int)) (P S : List Int) : Prop := Asc n S ∧ bl n (px (row ties) S) = P
theorem makes_iff {P S : List Int} (hP : Asc n P) (hS : Asc n S) : Makes n ties P S ↔ pic (row ties) n (mk S) = mk P := by
  unfold Makes
  rw [asc_px hS]
  constructor
  · rintro ⟨_, h⟩
    refine bl_inj (pic_n W _) hP.mask.1 ?_
    rw [h, hP.mask.2]
  · intro h
    exact ⟨hS, by rw [h, hP.mask.2]⟩
theorem any_ho {fu : Nat} (hf : n < fu) {P : List Int} (hP : Asc n P) : Ho (m_any_presses fu n ties P) (fun o => (∃ S, o = some S ∧ Makes n ties P S) ∨ (o = none ∧ ∀ S, ¬ Makes n ties P S)) := by
  have hn := W.n1
  unfold m_any_presses
  refine (presses_ho W hf hP.1 hP.2).bind fun o ho => ?_
  rcases ho with ⟨p, hp, rfl, e⟩ | ⟨rfl, e⟩
  · rw [if_neg (by simp)]
    show Ho ((m_set_of fu (p : Int)).map some) _
    rw [set_eq hp hf (by omega), Option.map_some]
    refine ho_some (.inl ⟨_, rfl, (makes_iff W hP (asc_bl n p)).mpr ?_⟩)
    rw [mk_bl_lt hp, e]
  · rw [if_pos (by rfl)]
    exact ho_some (.inr ⟨rfl, fun S h => e (mk S) h.1.mask.1 ((makes_iff W hP h.1).mp h)⟩)
open Classical in
theorem can_eq {fu : Nat} (hf : n < fu) {P : List Int} (hP : Asc n P) : m_can_make fu n ties P = some (decide (∃ S, Makes n ties P S)) := by
  unfold m_can_make
  refine Ho.eq ((presses_ho W hf hP.1 hP.2).bind fun o ho => ?_)
  rcases ho with ⟨p, hp, rfl, e⟩ | ⟨rfl, e⟩
  · rw [decide_eq_true (⟨bl n p, (makes_iff W hP (asc_bl n p)).mpr (by rw [mk_bl_lt hp, e])⟩ : ∃ S, Makes n ties P S)]
    exact ho_some rfl
  · rw [decide_eq_false (fun ⟨S, h⟩ => e (mk S) h.1.mask.1 ((makes_iff W hP h.1).mp h))]
    exact ho_some rfl
end
end Prog
namespace Prog
open PySem L2 Mir Lmp
/-! ### _law_eq -/
section
variable {α β : Type}
theorem eqv_int (a b : Int) : eqvO (.int a) (.int b) = some (decide (a = b)) := by
  unfold eqvO
  rw [show SeqAt.shaped (.int a) = true from lw_int.shaped (by decide) a, show SeqAt.shaped (.int b) = true from lw_int.shaped (by decide) b]
  simp only [Bool.and_self, if_true]
  rw [lw_int.eqv a b]
theorem eqv_bool (a b : Bool) : eqvO (.bool a) (.bool b) = some (decide (a = b)) := by
  unfold eqvO
  rw [show SeqAt.shaped (.bool a) = true from lw_bool.shaped (by decide) a, show SeqAt.shaped (.bool b) = true from lw_bool.shaped (by decide) b]
  simp only [Bool.and_self, if_true]
  rw [lw_bool.eqv a b]
variable {rec : PyData → PyData → Option Bool}
theorem eqS_int (a b : Int) : m__law_eqS rec (dI a) (dI b) = some (decide (a = b)) := by
  simp [m__law_eqS, isListD, isTupleD, isNoneD, isStrD, isBoolD, isIntD, eqv_int]
theorem eqS_bool (a b : Bool) : m__law_eqS rec (dB a) (dB b) = some (decide (a = b)) := by
  simp [m__law_eqS, isListD, isTupleD, isNoneD, isStrD, isBoolD, isIntD, eqv_bool]
theorem eqS_none (t : PyData) : m__law_eqS rec t .none = some (isNoneD t) := by
  simp [m__law_eqS, isListD, isTupleD, isNoneD]
theorem eqS_noneT (ys : List PyData) : m__law_eqS rec .none (.tuple ys) = some false := by
  simp [m__law_eqS, isListD, isTupleD]
theorem eqS_noneI (y : Int) : m__law_eqS rec .none (.int y) = some false := by
  simp [m__law_eqS, isListD, isTupleD, isNoneD, isStrD, isBoolD, isIntD]
theorem eq_items [DecidableEq α] {d : α → PyData} {as bs : List α} (hr : ∀ a ∈ as, ∀ b ∈ bs, rec (d a) (d b) = some (decide (a = b))) (hl : as.length = bs.length) (hz : as.length ≤ 16777216) :
    ((rngL 0 ((bs.map d).length : Int)).bind fun u13 => filtO (fun (k : Int) => ((atO (as.map d) k).bind fun u10 => (atO (bs.map d) k).bind fun u11 => rec u10 u11).map fun u12 => !u12) (fun (k : Int) => some (k)) u13).bind (fun u14 => some (decide (u14 = ([] : List Int)))) = some (decide (as = bs)) := by
  rw [List.length_map, rngL_eq (by omega) (by omega) (by omega), Option.bind_some]
  have key : ∀ k ∈ rng 0 (bs.length : Int), ((atO (as.map d) k).bind fun u10 => (atO (bs.map d) k).bind fun u11 => rec u10 u11).map (fun u12 => !u12) = some (!decide (as[k.toNat]? = bs[k.toNat]?)) := fun k hk => by
    have hk' := mem_rng.mp hk
    have h1 : k.toNat < as.length := by omega
    have h2 : k.toNat < bs.length := by omega
    rw [atO_get hk'.1, atO_get hk'.1, List.getElem?_map, List.getElem?_map, List.getElem?_eq_getElem h1, List.getElem?_eq_getElem h2]
    simp only [Option.map_some, Option.bind_some]
    rw [hr _ (List.getElem_mem h1) _ (List.getElem_mem h2)]
    simp
  rw [filtO_id key, Option.bind_some]
  congr 1
  rw [decide_eq_decide, List.filter_eq_nil_iff]
  constructor
  · intro h
    apply List.ext_getElem?
    intro i
    by_cases hi : i < bs.length
    · have := h (i : Int) (mem_rng.mpr ⟨by omega, by omega⟩)
      simpa using this
    · rw [List.getElem?_eq_none (by omega), List.getElem?_eq_none (by omega)]
  · rintro rfl k _
    simp
theorem eqS_tup (xs ys : List PyData) : m__law_eqS rec (.tuple xs) (.tuple ys) = if decide ((xs.length : Int) = (ys.length : Int)) then ((rngL 0 (ys.length : Int)).bind fun u13 => filtO (fun (k : Int) => ((atO xs k).bind fun u10 => (atO ys k).bind fun u11 => rec u10 u11).map fun u12 => !u12) (fun (k : Int) => some (k)) u13).bind (fun u14 => some (decide (u14 = ([] : List Int)))) else some false := by
  have e : m__law_eqS rec (.tuple xs) (.tuple ys) = if !decide ((xs.length : Int) = (ys.length : Int)) then some false else ((rngL 0 (ys.length : Int)).bind fun u13 => filtO (fun (k : Int) => ((atO xs k).bind fun u10 => (atO ys k).bind fun u11 => rec u10 u11).map fun u12 => !u12) (fun (k : Int) => some (k)) u13).bind (fun u14 => some (decide (u14 = ([] : List Int)))) := by
    unfold m__law_eqS
    rw [show (isListD (.tuple ys) || isTupleD (.tuple ys)) = true from rfl, if_pos rfl, show (!decide (isListD (.tuple xs) = isListD (.tuple ys)) || !decide (isTupleD (.tuple xs) = isTupleD (.tuple ys))) = false from rfl, if_neg (by simp)]
    simp only [seqD, Option.map_some, Option.bind_some]
  rw [e]
  cases decide ((xs.length : Int) = (ys.length : Int)) with
  | true => rw [Bool.not_true, if_neg (by simp), if_pos rfl]
  | false => rw [Bool.not_false, if_pos rfl, if_neg (by simp)]
theorem eqS_dT [DecidableEq α] {d : α → PyData} {as bs : List α} (hr : ∀ a ∈ as, ∀ b ∈ bs, rec (d a) (d b) = some (decide (a = b))) (hz : as.length ≤ 16777216) : m__law_eqS rec (dT d as) (dT d bs) = some (decide (as = bs)) := by
  have e := eqS_tup (rec := rec) (as.map d) (bs.map d)
  rw [List.length_map (as := as)] at e
  refine Eq.trans e ?_
  by_cases hl : as.length = bs.length
  · have e2 : decide ((as.length : Int) = (((bs.map d).length : Nat) : Int)) = true := by rw [List.length_map]; simp [hl]
    rw [e2, if_pos rfl]
    exact eq_items hr hl hz
  · have e2 : decide ((as.length : Int) = (((bs.map d).length : Nat) : Int)) = false := by rw [List.length_map]; simp; omega
    rw [e2, if_neg (by simp)]
    have : ¬ as = bs := fun z => hl (by rw [z])
    simp [this]
def Eqs [DecidableEq α] (n : Nat) (d : α → PyData) (P : α → Prop) : Prop := ∀ a b, P a → P b → eqN n (d a) (d b) = some (decide (a = b))
theorem eqs_int (n : Nat) : Eqs (n + 1) dI (fun _ => True) := fun a b _ _ => eqS_int a b
theorem eqs_bool (n : Nat) : Eqs (n + 1) dB (fun _ => True) := fun a b _ _ => eqS_bool a b
theorem eqs_tup [DecidableEq α] {n : Nat} {d : α → PyData} {P : α → Prop} (h : Eqs n d P) : Eqs (n + 1) (dT d) (fun xs => xs.length ≤ 16777216 ∧ ∀ x ∈ xs, P x) := fun a b ha hb => eqS_dT (fun x hx y hy => h x y (ha.2 x hx) (hb.2 y hy)) ha.1
theorem eqs_optT [DecidableEq α] {n : Nat} {d : α → PyData} {P : List α → Prop} (h : Eqs (n + 1) (dT d) P) : Eqs (n + 1) (dO (dT d)) (fun o => ∀ x, o = some x → P x) := fun a b ha hb => by
  cases b with
  | none =>
    cases a with
    | none => exact eqS_none _
    | some a => exact eqS_none _
  | some b =>
    cases a with
    | none => exact eqS_noneT _
    | some a =>
      have := h a b (ha a rfl) (hb b rfl)
      show eqN (n + 1) (dT d a) (dT d b) = _
      rw [this]
      simp
end
structure Small (n : Int) (ties : List (Int × Int)) : Prop where
  w : Web n ties
  n0 : 0 ≤ n
  nB : n * (1 + ties.length) ≤ 100000
  nn : n ≤ 1000
def pathT (n : Int) : List (Int × Int) := (rng 0 (n - 1)).map fun i => (i, i + 1)
def wholeT (n : Int) : List (Int × Int) := (rng 0 n).flatMap fun a => (rng (a + 1) n).map fun b => (a, b)
def ringT (n : Int) : List (Int × Int) := (pathT n ++ [(0, n - 1)]).mergeSort leP
theorem path_eq {n : Int} (h : 0 ≤ n ∧ n ≤ 1000) : m__law_path n = some (pathT n) := by
  unfold m__law_path
  rw [rngL_eq (by omega) (by omega) (by omega), Option.bind_some, mapO_eq (f := fun i => (i, i + 1)) fun _ _ => rfl, Option.bind_some, tupO_eq (by rw [List.length_map, rng_len]; omega)]
  rfl
theorem ring_eq {n : Int} (h : 0 ≤ n ∧ n ≤ 1000) : m__law_ring n = some (ringT n) := by
  unfold m__law_ring
  have hl : (pathT n).length ≤ 1000 := by unfold pathT; rw [List.length_map, rng_len]; omega
  have e : (rng 0 (n - 1)).map (fun i => (i, i + 1)) = pathT n := rfl
  rw [rngL_eq (by omega) (by omega) (by omega), Option.bind_some, mapO_eq (f := fun i => (i, i + 1)) fun _ _ => rfl, Option.bind_some, e, catO_eq (by show (pathT n).length + 1 ≤ _; omega), Option.map_some, Option.bind_some, tupO_eq (by rw [ms_len, List.length_append]; show (pathT n).length + 1 ≤ _; omega)]
  rfl
theorem whole_pre {n : Int} (h : 0 ≤ n ∧ n ≤ 100) : ∀ p : List Int, (∀ a ∈ p, 0 ≤ a) → (p.flatMap fun a => (rng (a + 1) n).map fun b => (a, b)).length ≤ p.length * 100
  | [], _ => Nat.zero_le _
  | a :: p, ha => by
    have ih := whole_pre h p fun x hx => ha x (List.mem_cons_of_mem _ hx)
    have := ha a List.mem_cons_self
    rw [List.flatMap_cons, List.length_append, List.length_map, rng_len, List.length_cons]
    omega
theorem whole_eq {n : Int} (h : 0 ≤ n ∧ n ≤ 100) : m__law_whole n = some (wholeT n) := by
  unfold m__law_whole
  dsimp only
  rw [rngO_eq (by omega) (by omega), Option.bind_some]
  refine Ho.eq (Ho.bind (P := fun s => s = wholeT n) ?_ fun s hs => ?_)
  · refine (ho_foldI (Inv := fun p s => s = p.flatMap fun a => (rng (a + 1) n).map fun b => (a, b)) (pre := []) rfl fun p a s ⟨q, e⟩ i => ?_).mono fun s hs => hs
    rw [List.nil_append] at e
    have hp : ∀ x ∈ p ++ [a], 0 ≤ x ∧ x < n := fun x hx => mem_rng.mp (by rw [e]; rcases List.mem_append.mp hx with h | h; exact List.mem_append_left _ h; exact List.mem_append_right _ (by simp at h; simp [h]))
    have ha := hp a (by simp)
    have hl := congrArg List.length e
    rw [rng_len, List.length_append, List.length_cons] at hl
    have h2 := whole_pre h p fun x hx => (hp x (List.mem_append_left _ hx)).1
    rw [rngL_eq (by omega) (by omega) (by omega), Option.bind_some, mapO_eq (f := fun b => (a, b)) fun _ _ => rfl, Option.bind_some, i, catO_eq (by rw [List.length_map, rng_len]; omega), Option.bind_some]
    refine ho_some ?_
    rw [List.flatMap_append]
    simp
  · rw [hs, tupO_eq]
    · exact ho_some rfl
    · have := whole_pre h (rng 0 n) fun x hx => (mem_rng.mp hx).1
      rw [rng_len] at this
      unfold wholeT
      omega
theorem mem_path {n : Int} {t : Int × Int} : t ∈ pathT n ↔ 0 ≤ t.1 ∧ t.2 = t.1 + 1 ∧ t.2 < n := by
  unfold pathT
  rw [List.mem_map]
  constructor
  · rintro ⟨i, hi, rfl⟩
    have := mem_rng.mp hi
    exact ⟨this.1, rfl, by show i + 1 < n; omega⟩
  · rintro ⟨h1, h2, h3⟩
    exact ⟨t.1, mem_rng.mpr ⟨h1, by omega⟩, by rw [← h2]⟩
theorem mem_whole {n : Int} {t : Int × Int} : t ∈ wholeT n ↔ 0 ≤ t.1 ∧ t.1 < t.2 ∧ t.2 < n := by
  unfold wholeT
  rw [List.mem_flatMap]
  constructor
  · rintro ⟨a, ha, h⟩
    obtain ⟨b, hb, rfl⟩ := List.mem_map.mp h
    have := mem_rng.mp ha
    have := mem_rng.mp hb
    exact ⟨by omega, by show a < b; omega, by show b < n; omega⟩
  · rintro ⟨h1, h2, h3⟩
    exact ⟨t.1, mem_rng.mpr ⟨h1, by omega⟩, List.mem_map.mpr ⟨t.2, mem_rng.mpr ⟨by omega, h3⟩, rfl⟩⟩
theorem mem_ring {n : Int} {t : Int × Int} : t ∈ ringT n ↔ t ∈ pathT n ∨ t = (0, n - 1) := by
  unfold ringT
  rw [(List.mergeSort_perm _ _).mem_iff, List.mem_append, List.mem_singleton]
theorem len_path (n : Int) : (pathT n).length = (n - 1).toNat := by unfold pathT; rw [List.length_map, rng_len]; omega
theorem len_ring (n : Int) : (ringT n).length = (n - 1).toNat + 1 := by unfold ringT; rw [ms_len, List.length_append, len_path]; rfl
theorem len_whole {n : Int} (h : 0 ≤ n ∧ n ≤ 100) : (wholeT n).length ≤ n.toNat * 100 := by
  have := whole_pre h (rng 0 n) fun x hx => (mem_rng.mp hx).1
  rw [rng_len] at this
  unfold wholeT
  omega
theorem small_of {n : Int} {ties : List (Int × Int)} (w : Web n ties) (hn : 0 ≤ n ∧ n ≤ 10) (hl : ties.length ≤ 1000) : Small n ties := by
  refine ⟨w, hn.1, ?_, by omega⟩
  have : n * (1 + (ties.length : Int)) ≤ 10 * (1 + (ties.length : Int)) := Int.mul_le_mul_of_nonneg_right hn.2 (by omega)
  omega
theorem path_small {n : Int} (hn : 0 ≤ n ∧ n ≤ 10) : Small n (pathT n) := small_of ⟨fun t h => by have := mem_path.mp h; exact ⟨this.1, by omega, this.2.2⟩⟩ hn (by rw [len_path]; omega)
theorem whole_small {n : Int} (hn : 0 ≤ n ∧ n ≤ 10) : Small n (wholeT n) := small_of ⟨fun t h => mem_whole.mp h⟩ hn (by have := len_whole (n := n) ⟨hn.1, by omega⟩; omega)
theorem ring_small {n : Int} (hn : 2 < n ∧ n ≤ 10) : Small n (ringT n) := small_of ⟨fun t h => by
  rcases mem_ring.mp h with h | h
  · have := mem_path.mp h; exact ⟨this.1, by omega, this.2.2⟩
  · subst h
    exact ⟨Int.le_refl _, by show (0 : Int) < n - 1; omega, by show n - 1 < n; omega⟩⟩ ⟨by omega, hn.2⟩ (by rw [len_ring]; omega)
theorem state_ho {ns : List Int} (h : ns.length ≤ 63) : Ho (m__law_state ns) (fun _ => True) := by
  unfold m__law_state
  dsimp only
  refine Ho.bind (P := fun _ => True) ?_ fun s _ => ?_
  · exact ho_fold True.intro fun s x _ _ => ho_some True.intro
  · rw [tupO_eq (by omega), Option.bind_some, mapO_eq (f := fun c => if c < 0 then -c else c) fun _ _ => rfl]
    exact ho_some True.intro
theorem eq_opt (a : Option (List Int)) (h : ∀ x, a = some x → x.length ≤ 16777216) : m__law_eq (dO (dT dI) a) (dO (dT dI) a) = some true := by
  have := eqs_optT (eqs_tup (eqs_int 5)) a a (fun x hx => ⟨h x hx, fun _ _ => True.intro⟩) (fun x hx => ⟨h x hx, fun _ _ => True.intro⟩)
  rw [decide_eq_true rfl] at this
  exact this
theorem eq_tupI (a : List Int) (h : a.length ≤ 16777216) : m__law_eq (dT dI a) (dT dI a) = some true := by
  have := eqs_tup (eqs_int 5) a a ⟨h, fun _ _ => True.intro⟩ ⟨h, fun _ _ => True.intro⟩
  rw [decide_eq_true rfl] at this
  exact this
theorem eq_boolB (a b : Bool) : m__law_eq (dB a) (dB b) = some (decide (a = b)) := eqs_bool 6 a b True.intro True.intro
theorem rng_nd (a b : Int) : (rng a b).Nodup := lt_nodup (rng_lt a b)
theorem web_ho {n share : Int} {w : DS} (hn : 0 ≤ n ∧ n ≤ 100) (hs : 0 < share ∧ share < 1000) : Ho (m__law_web n share w) (fun r => Web n r.1 ∧ r.1.Nodup) := by
  unfold m__law_web
  dsimp only
  rw [rngO_eq (by omega) (by omega), Option.bind_some]
  refine Ho.bind (P := fun s : List (Int × Int) × DS => Web n s.1 ∧ s.1.length ≤ n.toNat * 100 ∧ s.1.Nodup) ?_ fun s h => ?_
  · refine (ho_foldI (Inv := fun p (s : List (Int × Int) × DS) => Web n s.1 ∧ s.1.length ≤ p.length * 100 ∧ s.1.Nodup ∧ ∀ t ∈ s.1, t.1 ∈ p) (pre := []) ⟨⟨fun t h => by cases h⟩, Nat.zero_le _, List.nodup_nil, fun t h => by cases h⟩ fun p a s ⟨q, e⟩ i => ?_).mono fun s h => ?_
    · rw [List.nil_append, rng_len] at h
      exact ⟨h.1, by have := h.2.1; omega, h.2.2.1⟩
    rw [List.nil_append] at e
    have ha := mem_rng.mp (show a ∈ rng 0 n by rw [e]; simp)
    have hap : a ∉ p := fun z => by
      have := rng_nd 0 n
      rw [e, List.nodup_append] at this
      exact this.2.2 a z a List.mem_cons_self rfl
    have hl := congrArg List.length e
    rw [rng_len, List.length_append, List.length_cons] at hl
    rw [rngL_eq (by omega) (by omega) (by omega), Option.bind_some]
    refine Ho.bind (P := fun s : List (Int × Int) × DS => Web n s.1 ∧ s.1.length ≤ (p ++ [a]).length * 100 ∧ s.1.Nodup ∧ ∀ t ∈ s.1, t.1 ∈ p ++ [a]) ?_ fun s h => ho_some h
    refine (ho_filtWs (f := fun b => (a, b)) (Iw := fun _ => True) True.intro fun x _ w _ => ?_).bind fun r hr => ?_
    · exact (draw_ho hs.1 (by omega)).bind fun v _ => ho_some True.intro
    · obtain ⟨⟨ys, e2, sub⟩, _⟩ := hr
      have hys := sub.length_le
      have i2 := i.2.1
      rw [rng_len] at hys
      rw [e2, catO_eq (by rw [List.length_map]; omega), Option.map_some]
      refine ho_some ⟨⟨fun t ht => ?_⟩, ?_, ?_, fun t ht => ?_⟩
      · rcases List.mem_append.mp ht with ht | ht
        · exact i.1.rg t ht
        · obtain ⟨b, hb, rfl⟩ := List.mem_map.mp ht
          have := mem_rng.mp (sub.subset hb)
          exact ⟨ha.1, by show a < b; omega, this.2⟩
      · show (s.1 ++ _).length ≤ _
        rw [List.length_append, List.length_map, List.length_append]
        show s.1.length + ys.length ≤ (p.length + 1) * 100
        omega
      · dsimp only
        rw [List.nodup_append]
        refine ⟨i.2.2.1, List.pairwise_map.mpr ((sub.nodup (rng_nd _ _)).imp fun h q => h (Prod.mk.inj q).2), fun x hx y hy q => ?_⟩
        obtain ⟨b, _, rfl⟩ := List.mem_map.mp hy
        exact hap (by have := i.2.2.2 x hx; rw [q] at this; exact this)
      · rcases List.mem_append.mp ht with ht | ht
        · exact List.mem_append_left _ (i.2.2.2 t ht)
        · obtain ⟨b, _, rfl⟩ := List.mem_map.mp ht
          simp
  · rw [tupO_eq (by omega)]
    exact ho_some ⟨h.1, h.2.2⟩
theorem path_nd (n : Int) : (pathT n).Nodup := List.pairwise_map.mpr ((rng_nd _ _).imp fun h q => h (Prod.mk.inj q).1)
theorem whole_nd (n : Int) : (wholeT n).Nodup := by
  have key : ∀ l : List Int, l.Nodup → (l.flatMap fun a => (rng (a + 1) n).map fun b => (a, b)).Nodup := fun l => by
    induction l with
    | nil => intro _; simp
    | cons a l ih =>
      intro h
      obtain ⟨h1, h2⟩ := List.nodup_cons.mp h
      rw [List.flatMap_cons, List.nodup_append]
      refine ⟨List.pairwise_map.mpr ((rng_nd _ _).imp fun h q => h (Prod.mk.inj q).2), ih h2, fun x hx y hy q => ?_⟩
      obtain ⟨b, _, rfl⟩ := List.mem_map.mp hx
      obtain ⟨c, hc, hy⟩ := List.mem_flatMap.mp hy
      obtain ⟨d, _, rfl⟩ := List.mem_map.mp hy
      exact h1 (by rw [(Prod.mk.inj q).1]; exact hc)
  exact key _ (rng_nd _ _)
theorem ring_nd {n : Int} (h : 2 < n) : (ringT n).Nodup := by
  unfold ringT
  refine (List.mergeSort_perm _ _).nodup_iff.mpr ?_
  rw [List.nodup_append]
  refine ⟨path_nd n, by simp, fun x hx y hy q => ?_⟩
  rw [List.mem_singleton.mp hy] at q
  have := mem_path.mp hx
  rw [q] at this
  dsimp only at this
  omega
section
variable {α : Type} {rec : PyData → PyData → Option Bool}
theorem eqS_lst (xs ys : List PyData) : m__law_eqS rec (.list xs) (.list ys) = if decide ((xs.length : Int) = (ys.length : Int)) then ((rngL 0 (ys.length : Int)).bind fun u13 => filtO (fun (k : Int) => ((atO xs k).bind fun u10 => (atO ys k).bind fun u11 => rec u10 u11).map fun u12 => !u12) (fun (k : Int) => some (k)) u13).bind (fun u14 => some (decide (u14 = ([] : List Int)))) else some false := by
  have e : m__law_eqS rec (.list xs) (.list ys) = if !decide ((xs.length : Int) = (ys.length : Int)) then some false else ((rngL 0 (ys.length : Int)).bind fun u13 => filtO (fun (k : Int) => ((atO xs k).bind fun u10 => (atO ys k).bind fun u11 => rec u10 u11).map fun u12 => !u12) (fun (k : Int) => some (k)) u13).bind (fun u14 => some (decide (u14 = ([] : List Int)))) := by
    unfold m__law_eqS
    rw [show (isListD (.list ys) || isTupleD (.list ys)) = true from rfl, if_pos rfl, show (!decide (isListD (.list xs) = isListD (.list ys)) || !decide (isTupleD (.list xs) = isTupleD (.list ys))) = false from rfl, if_neg (by simp)]
    simp only [seqD, Option.map_some, Option.bind_some]
  rw [e]
  cases decide ((xs.length : Int) = (ys.length : Int)) with
  | true => rw [Bool.not_true, if_neg (by simp), if_pos rfl]
  | false => rw [Bool.not_false, if_pos rfl, if_neg (by simp)]
theorem eqS_dL [DecidableEq α] {d : α → PyData} {as bs : List α} (hr : ∀ a ∈ as, ∀ b ∈ bs, rec (d a) (d b) = some (decide (a = b))) (hz : as.length ≤ 16777216) : m__law_eqS rec (dL d as) (dL d bs) = some (decide (as = bs)) := by
  have e := eqS_lst (rec := rec) (as.map d) (bs.map d)
  rw [List.length_map (as := as)] at e
  refine Eq.trans e ?_
  by_cases hl : as.length = bs.length
  · have e2 : decide ((as.length : Int) = (((bs.map d).length : Nat) : Int)) = true := by rw [List.length_map]; simp [hl]
    rw [e2, if_pos rfl]
    exact eq_items hr hl hz
  · have e2 : decide ((as.length : Int) = (((bs.map d).length : Nat) : Int)) = false := by rw [List.length_map]; simp; omega
    rw [e2, if_neg (by simp)]
    have : ¬ as = bs := fun z => hl (by rw [z])
    simp [this]
theorem eqs_lst [DecidableEq α] {n : Nat} {d : α → PyData} {P : α → Prop} (h : Eqs n d P) : Eqs (n + 1) (dL d) (fun xs => xs.length ≤ 16777216 ∧ ∀ x ∈ xs, P x) := fun a b ha hb => eqS_dL (fun x hx y hy => h x y (ha.2 x hx) (hb.2 y hy)) ha.1
theorem eq_lists (a : List (List Int)) (h : a.length ≤ 16777216 ∧ ∀ x ∈ a, x.length ≤ 16777216) : m__law_eq (dL (dT dI) a) (dL (dT dI) a) = some true := by
  have := eqs_lst (eqs_tup (eqs_int 4)) a a ⟨h.1, fun x hx => ⟨h.2 x hx, fun _ _ => True.intro⟩⟩ ⟨h.1, fun x hx => ⟨h.2 x hx, fun _ _ => True.intro⟩⟩
  rw [decide_eq_true rfl] at this
  exact this
theorem eq_intB (a b : Int) : m__law_eq (dI a) (dI b) = some (decide (a = b)) := eqs_int 6 a b True.intro True.intro
end
section
variable {n : Nat} {ties : List (Int × Int)} (W : Wb n ties)
include W
omit W in
theorem bl_zero : ∀ n : Nat, bl n 0 = []
  | 0 => rfl
  | n + 1 => by
    show (if (0 : Nat).testBit n then bl n 0 ++ [(n : Int)] else bl n 0) = []
    rw [Nat.zero_testBit, if_neg (by simp), bl_zero n]
end
theorem common_par (B : List Int) : ∀ (k a : Nat), decide ((((bl k a).filter fun x => decide (x ∈ B)).length : Int) % 2 = 1) = par k fun i => a.testBit i && decide ((i : Int) ∈ B)
  | 0, a => rfl
  | k + 1, a => by
    have ih := common_par B k a
    show decide ((((if a.testBit k then bl k a ++ [(k : Int)] else bl k a).filter fun x => decide (x ∈ B)).length : Int) % 2 = 1) = (par k fun i => a.testBit i && decide ((i : Int) ∈ B)).xor (a.testBit k && decide ((k : Int) ∈ B))
    rw [← ih]
    cases a.testBit k with
    | false => simp
    | true =>
      rw [if_pos rfl, Bool.true_and, List.filter_append, List.length_append]
      by_cases h : (k : Int) ∈ B
      · rw [decide_eq_true h, List.filter_cons_of_pos (by simpa using h), Bool.xor_true, ← decide_not]
        refine decide_eq_decide.mpr ?_
        simp only [List.filter_nil, List.length_cons, List.length_nil]
        omega
      · rw [decide_eq_false h, List.filter_cons_of_neg (by simpa using h), Bool.xor_false]
        refine decide_eq_decide.mpr ?_
        simp only [List.filter_nil, List.length_nil]
        omega
section
variable {n : Nat} {ties : List (Int × Int)}
theorem common_odd {A B : List Int} (hA : Asc n A) (hB : Asc n B) : decide (((A.filter fun x => decide (x ∈ B)).length : Int) % 2 = 1) = dot n (mk A) (mk B) := by
  have := common_par B n (mk A)
  rw [hA.mask.2] at this
  rw [this]
  refine par_congr fun i hi => ?_
  congr 1
  rw [Bool.eq_iff_iff, decide_eq_true_eq]
  exact ((mk_bit hB.1 hB.2).2.2 i hi).symm
variable (W : Wb n ties)
include W
theorem makes_mask {P : List Int} (hP : Asc n P) : (∃ S, Makes n ties P S) ↔ ∃ p, p < 2 ^ n ∧ mk P = pic (row ties) n p := by
  constructor
  · rintro ⟨S, h⟩
    exact ⟨mk S, h.1.mask.1, ((makes_iff W hP h.1).mp h).symm⟩
  · rintro ⟨p, hp, e⟩
    exact ⟨bl n p, (makes_iff W hP (asc_bl n p)).mpr (by rw [mk_bl_lt hp, e])⟩
theorem makes_even {P : List Int} (hP : Asc n P) {I : List (List Int)} (hI : Idle n ties I) : (∃ S, Makes n ties P S) ↔ I.filter (fun one => decide (((one.filter fun x => decide (x ∈ P)).length : Int) % 2 = 1)) = [] := by
  rw [makes_mask W hP, (row_sym W).made_iff hP.mask.1, List.filter_eq_nil_iff]
  constructor
  · intro h T hT
    obtain ⟨a, b⟩ := (hI.2 T).mp hT
    rw [common_odd a hP, dot_comm, h _ a.mask.1 (by rw [← asc_px a]; exact b)]
    simp
  · intro h q hq hz
    have := h (bl n q) ((hI.2 _).mpr ⟨asc_bl n q, by rw [px_bl]; exact hz⟩)
    rw [common_odd (asc_bl n q) hP, mk_bl_lt hq, dot_comm] at this
    simpa using this
theorem makes_all : ∃ S, Makes n ties (rng 0 n) S := by
  have hr : Asc n (rng 0 n) := ⟨rng_lt _ _, fun x hx => mem_rng.mp hx⟩
  obtain ⟨p, hp, e⟩ := (row_sym W).all
  refine (makes_mask W hr).mpr ⟨p, hp, ?_⟩
  rw [← e]
  refine Nat.eq_of_testBit_eq fun i => ?_
  rw [Nat.testBit_two_pow_sub_one]
  by_cases hi : i < n
  · rw [decide_eq_true hi]
    exact ((mk_bit hr.1 hr.2).2.2 i hi).mpr (mem_rng.mpr ⟨by omega, by omega⟩)
  · rw [decide_eq_false hi]
    exact Nat.testBit_lt_two_pow (Nat.lt_of_lt_of_le hr.mask.1 (Nat.pow_le_pow_right (by decide) (by omega)))
end
theorem Ho.if_neg {α : Type} {c : Bool} {a b : Option α} {P : α → Prop} (h : c = false) (k : Ho b P) : Ho (if c then a else b) P := by rw [h]; exact k
end Prog
namespace Prog
open PySem L2 Mir Lmp
/-! ### slacks by kernels -/
/-- the mask of what f tells -/
def mkF (n : Nat) (f : Nat → Bool) : Nat := mk ((rng 0 n).filter fun x => f x.toNat)
theorem mkF_spec (n : Nat) (f : Nat → Bool) : mkF n f < 2 ^ n ∧ ∀ i, i < n → (mkF n f).testBit i = f i := by
  have hp : ((rng 0 (n : Int)).filter fun x => f x.toNat).Pairwise (· < ·) := (rng_lt _ _).filter _
  have hr : ∀ x ∈ (rng 0 (n : Int)).filter (fun x => f x.toNat), 0 ≤ x ∧ x < n := fun x hx => mem_rng.mp (List.mem_filter.mp hx).1
  refine ⟨(mk_bit hp hr).1, fun i hi => ?_⟩
  rw [Bool.eq_iff_iff]
  refine ((mk_bit hp hr).2.2 i hi).trans ?_
  rw [List.mem_filter, mem_rng, Int.toNat_natCast]
  exact ⟨fun h => h.2, fun h => ⟨⟨by omega, by omega⟩, h⟩⟩
theorem mask_ext {n a b : Nat} (ha : a < 2 ^ n) (hb : b < 2 ^ n) (h : ∀ i, i < n → a.testBit i = b.testBit i) : a = b := by
  refine Nat.eq_of_testBit_eq fun i => ?_
  by_cases hi : i < n
  · exact h i hi
  · rw [Nat.testBit_lt_two_pow (Nat.lt_of_lt_of_le ha (Nat.pow_le_pow_right (by decide) (by omega))), Nat.testBit_lt_two_pow (Nat.lt_of_lt_of_le hb (Nat.pow_le_pow_right (by decide) (by omega)))]
theorem high_bit {n a i : Nat} (ha : a < 2 ^ n) (hi : n ≤ i) : a.testBit i = false := Nat.testBit_lt_two_pow (Nat.lt_of_lt_of_le ha (Nat.pow_le_pow_right (by decide) hi))
section
variable {n : Nat} {ties : List (Int × Int)} (W : Wb n ties)
include W
/-- idle just if each place is met evenly -/
theorem ker_iff {p : Nat} : pic (row ties) n p = 0 ↔ ∀ i, i < n → dot n (row ties i) p = false := by
  constructor
  · intro h i hi
    rw [← (row_sym W).bit hi, h, Nat.zero_testBit]
  · intro h
    refine mask_ext (pic_n W p) (Nat.two_pow_pos n) fun i hi => ?_
    rw [(row_sym W).bit hi, h i hi, Nat.zero_testBit]
/-- the slack by a list of all idle masks -/
theorem slack_eq {fu d : Nat} (hf : n < fu) {C : List Nat} {g : Nat → Nat} (nd : C.Nodup) (hl : C.length = 2 ^ d) (hg : ∀ c ∈ C, g c < 2 ^ n ∧ pic (row ties) n (g c) = 0) (hi : ∀ c ∈ C, ∀ c' ∈ C, g c = g c' → c = c') (ho : ∀ p, p < 2 ^ n → pic (row ties) n p = 0 → ∃ c ∈ C, g c = p) :
    m_slack fu n ties = some (d : Int) := by
  refine Ho.eq ((slack_ho W hf).mono fun x hx => ?_)
  obtain ⟨k, rfl, _, K, hK, hl'⟩ := hx
  have hI : Idle n ties (C.map fun c => bl n (g c)) := by
    refine ⟨List.pairwise_map.mpr (List.Pairwise.imp_of_mem (fun {a b} ha hb ne e => ne (hi a ha b hb (bl_inj (hg a ha).1 (hg b hb).1 e))) nd), fun S => ?_⟩
    rw [List.mem_map]
    constructor
    · rintro ⟨c, hc, rfl⟩
      exact ⟨asc_bl _ _, by rw [px_bl]; exact (hg c hc).2⟩
    · rintro ⟨a, b⟩
      obtain ⟨c, hc, e⟩ := ho (mk S) a.mask.1 (by rw [← asc_px a]; exact b)
      exact ⟨c, hc, by rw [e, a.mask.2]⟩
  have e := (hK.perm hI).length_eq
  rw [hl', List.length_map, hl] at e
  have : k = d := Nat.le_antisymm ((Nat.pow_le_pow_iff_right (by decide : 1 < 2)).mp (Nat.le_of_eq e)) ((Nat.pow_le_pow_iff_right (by decide : 1 < 2)).mp (Nat.le_of_eq e.symm))
  rw [this]
end
/-! ### parities of few places -/
def xs (L : List Nat) (f : Nat → Bool) : Bool := L.foldr (fun j b => (f j).xor b) false
theorem xs_congr : ∀ {L : List Nat} {f g : Nat → Bool}, (∀ j ∈ L, f j = g j) → xs L f = xs L g
  | [], _, _, _ => rfl
  | j :: L, f, g, h => by
    show (f j).xor (xs L f) = (g j).xor (xs L g)
    rw [h j List.mem_cons_self, xs_congr fun i hi => h i (List.mem_cons_of_mem _ hi)]
theorem par_list {n : Nat} : ∀ {L : List Nat} {f : Nat → Bool}, L.Nodup → (∀ j ∈ L, j < n) → (∀ j, j < n → j ∉ L → f j = false) → par n f = xs L f
  | [], f, _, _, h => par_false fun i hi => h i hi (by simp)
  | l :: L, f, nd, hL, h => by
    obtain ⟨n1, n2⟩ := List.nodup_cons.mp nd
    have hl := hL l List.mem_cons_self
    have e : par n f = par n (fun j => (if j = l then f l else false).xor (if j = l then false else f j)) := par_congr fun j _ => by
      by_cases q : j = l
      · rw [if_pos q, if_pos q, q, Bool.xor_false]
      · rw [if_neg q, if_neg q, Bool.false_xor]
    rw [e, par_xor, par_one hl fun j _ ne => by rw [if_neg ne], if_pos rfl, par_list (L := L) n2 (fun j hj => hL j (List.mem_cons_of_mem _ hj)) fun j hj hn => ?_]
    · show (f l).xor _ = (f l).xor (xs L f)
      congr 1
      exact xs_congr fun j hj => by rw [if_neg (fun (q : j = l) => n1 (q ▸ hj))]
    · by_cases q : j = l
      · rw [if_pos q]
      · rw [if_neg q]
        exact h j hj fun z => (List.mem_cons.mp z).elim q hn
section
variable {n : Nat} {ties : List (Int × Int)} (W : Wb n ties)
include W
/-- a place is met as often as stands in the list of it and those beside it -/
theorem dot_list {i : Nat} (hi : i < n) {L : List Nat} (nd : L.Nodup) (hL : ∀ j, j ∈ L ↔ j < n ∧ (j = i ∨ (j : Int) ∈ nbr ties (i : Int))) (p : Nat) : dot n (row ties i) p = xs L fun j => p.testBit j := by
  unfold dot
  rw [par_list nd (fun j hj => ((hL j).mp hj).1) fun j hj hn => ?_]
  · refine xs_congr fun j hj => ?_
    obtain ⟨a, b⟩ := (hL j).mp hj
    rw [(row_bit W hi a).mpr b, Bool.true_and]
  · have : (row ties i).testBit j = false := by
      cases q : (row ties i).testBit j with
      | false => rfl
      | true => exact absurd ((hL j).mpr ⟨hj, (row_bit W hi hj).mp q⟩) hn
    rw [this, Bool.false_and]
end
end Prog
namespace Prog
open PySem L2 Mir Lmp
/-! ### slacks of paths, rings, whole webs -/
theorem path_wb {n : Nat} (h : n ≤ 100) : Wb n (pathT n) := ⟨⟨fun t h => by have := mem_path.mp h; exact ⟨this.1, by omega, this.2.2⟩⟩, path_nd n, h⟩
theorem ring_wb {n : Nat} (h : 2 < n ∧ n ≤ 100) : Wb n (ringT n) := ⟨⟨fun t h' => by
  rcases mem_ring.mp h' with h' | h'
  · have := mem_path.mp h'; exact ⟨this.1, by omega, this.2.2⟩
  · subst h'
    exact ⟨Int.le_refl _, by show (0 : Int) < n - 1; omega, by show (n : Int) - 1 < n; omega⟩⟩, ring_nd (by omega), h.2⟩
theorem whole_wb {n : Nat} (h : n ≤ 100) : Wb n (wholeT n) := ⟨⟨fun t h => mem_whole.mp h⟩, whole_nd n, h⟩
section
variable {n : Nat}
theorem path_nbr {i : Nat} {y : Int} : y ∈ nbr (pathT n) (i : Int) ↔ (y = i + 1 ∧ y < n) ∨ (0 ≤ y ∧ (i : Int) = y + 1 ∧ i < n) := by
  rw [mem_nbr, mem_path, mem_path]
  dsimp only
  omega
theorem path_dot (h : n ≤ 100) {i p : Nat} (hi : i < n) (hp : p < 2 ^ n) : dot n (row (pathT n) i) p = (p.testBit i).xor ((decide (0 < i) && p.testBit (i - 1)).xor (p.testBit (i + 1))) := by
  by_cases h0 : 0 < i
  · rw [decide_eq_true h0, Bool.true_and]
    by_cases h1 : i + 1 < n
    · rw [dot_list (path_wb h) hi (L := [i, i - 1, i + 1]) (by simp; omega) (fun j => by rw [path_nbr]; simp only [List.mem_cons, List.not_mem_nil, or_false]; omega)]
      simp [xs]
    · rw [dot_list (path_wb h) hi (L := [i, i - 1]) (by simp; omega) (fun j => by rw [path_nbr]; simp only [List.mem_cons, List.not_mem_nil, or_false]; omega), high_bit hp (i := i + 1) (by omega)]
      simp [xs]
  · rw [decide_eq_false h0, Bool.false_and, Bool.false_xor]
    by_cases h1 : i + 1 < n
    · rw [dot_list (path_wb h) hi (L := [i, i + 1]) (by simp) (fun j => by rw [path_nbr]; simp only [List.mem_cons, List.not_mem_nil, or_false]; omega)]
      simp [xs]
    · rw [dot_list (path_wb h) hi (L := [i]) (by simp) (fun j => by rw [path_nbr]; simp only [List.mem_cons, List.not_mem_nil, or_false]; omega), high_bit hp (i := i + 1) (by omega)]
      simp [xs]
def patA (i : Nat) : Bool := decide (i % 3 ≠ 2)
theorem patA_next (i : Nat) : patA (i + 2) = (patA (i + 1)).xor (patA i) := by
  unfold patA
  have : i % 3 = 0 ∨ i % 3 = 1 ∨ i % 3 = 2 := by omega
  rcases this with h | h | h
  · rw [decide_eq_false (by omega), decide_eq_true (by omega), decide_eq_true (by omega)]; rfl
  · rw [decide_eq_true (by omega), decide_eq_false (by omega), decide_eq_true (by omega)]; rfl
  · rw [decide_eq_true (by omega), decide_eq_true (by omega), decide_eq_false (by omega)]; rfl
theorem path_ker (h1 : 1 ≤ n) (h : n ≤ 100) {p : Nat} (hp : p < 2 ^ n) (hk : pic (row (pathT n)) n p = 0) : ∀ i, i ≤ n → p.testBit i = (p.testBit 0 && patA i) := by
  have hd := (ker_iff (path_wb h)).mp hk
  have two : ∀ i, i < n → p.testBit i = (p.testBit 0 && patA i) ∧ p.testBit (i + 1) = (p.testBit 0 && patA (i + 1)) := by
    intro i
    induction i with
    | zero =>
      intro hi
      have e := hd 0 hi
      rw [path_dot h hi hp] at e
      refine ⟨by rw [show patA 0 = true from rfl, Bool.and_true], ?_⟩
      rw [show patA (0 + 1) = true from rfl, Bool.and_true]
      simp only [Nat.lt_irrefl, decide_false, Bool.false_and, Bool.false_xor] at e
      revert e
      cases p.testBit 0 <;> cases p.testBit (0 + 1) <;> decide
    | succ i ih =>
      intro hi
      obtain ⟨e1, e2⟩ := ih (by omega)
      have e := hd (i + 1) hi
      rw [path_dot h hi hp, decide_eq_true (by omega), Bool.true_and, Nat.add_sub_cancel] at e
      refine ⟨e2, ?_⟩
      rw [patA_next]
      rw [e1, e2] at e
      revert e
      show _ → p.testBit (i + 1 + 1) = _
      cases p.testBit 0 <;> cases patA i <;> cases patA (i + 1) <;> cases p.testBit (i + 1 + 1) <;> decide
  intro i hi
  by_cases q : i < n
  · exact (two i q).1
  · have : i = n - 1 + 1 := by omega
    rw [this]
    exact (two (n - 1) (by omega)).2
theorem path_slack {fu : Nat} (h1 : 1 ≤ n) (h : n ≤ 100) (hf : n < fu) : m_slack fu n (pathT n) = some (if n % 3 = 2 then 1 else 0) := by
  by_cases hm : n % 3 = 2
  · rw [if_pos hm]
    obtain ⟨s1, s2⟩ := mkF_spec n patA
    have hb : ∀ i, i ≤ n → (mkF n patA).testBit i = patA i := fun i hi => by
      by_cases q : i < n
      · exact s2 i q
      · have : i = n := by omega
        rw [this, high_bit s1 (Nat.le_refl _)]
        unfold patA
        rw [decide_eq_false (by omega)]
    refine slack_eq (path_wb h) hf (d := 1) (C := [0, 1]) (g := fun c => if c = 0 then 0 else mkF n patA) (by decide) rfl (fun c hc => ?_) (fun c hc c' hc' e => ?_) fun p hp hk => ?_
    · split
      · exact ⟨Nat.two_pow_pos n, pic_zero _ _⟩
      · refine ⟨s1, (ker_iff (path_wb h)).mpr fun i hi => ?_⟩
        rw [path_dot h hi s1, hb i (by omega), hb (i - 1) (by omega), hb (i + 1) hi]
        cases i with
        | zero => rfl
        | succ i =>
          rw [decide_eq_true (by omega), Bool.true_and, Nat.add_sub_cancel, patA_next]
          cases patA i <;> cases patA (i + 1) <;> rfl
    · have h0 : mkF n patA ≠ 0 := fun z => by
        have := hb 0 (by omega)
        rw [z, Nat.zero_testBit] at this
        cases this
      simp only [List.mem_cons, List.not_mem_nil, or_false] at hc hc'
      rcases hc with rfl | rfl <;> rcases hc' with rfl | rfl
      · rfl
      · exact absurd e.symm h0
      · exact absurd e h0
      · rfl
    · have hk' := path_ker h1 h hp hk
      cases q : p.testBit 0 with
      | false =>
        refine ⟨0, by simp, ?_⟩
        rw [if_pos rfl]
        refine mask_ext (Nat.two_pow_pos n) hp fun i hi => ?_
        rw [hk' i (by omega), q, Nat.zero_testBit]; rfl
      | true =>
        refine ⟨1, by simp, ?_⟩
        rw [if_neg (by decide)]
        refine mask_ext s1 hp fun i hi => ?_
        rw [hk' i (by omega), q, hb i (by omega)]; rfl
  · rw [if_neg hm]
    refine slack_eq (path_wb h) hf (d := 0) (C := [0]) (g := fun c => 0) (by decide) rfl (fun c hc => ⟨Nat.two_pow_pos n, pic_zero _ _⟩) (fun c hc c' hc' e => ?_) fun p hp hk => ⟨0, by simp, ?_⟩
    · rw [List.mem_singleton.mp hc, List.mem_singleton.mp hc']
    · have hk' := path_ker h1 h hp hk
      have e := hk' n (Nat.le_refl _)
      rw [high_bit hp (Nat.le_refl _), show patA n = true from decide_eq_true hm, Bool.and_true] at e
      refine mask_ext (Nat.two_pow_pos n) hp fun i hi => ?_
      rw [hk' i (by omega), ← e, Nat.zero_testBit]; rfl
/-! rings -/
theorem ring_nbr (h : 2 < n) {i : Nat} {y : Int} : y ∈ nbr (ringT n) (i : Int) ↔ ((y = i + 1 ∧ y < n) ∨ (0 ≤ y ∧ (i : Int) = y + 1 ∧ i < n)) ∨ (i = 0 ∧ y = n - 1) ∨ (y = 0 ∧ (i : Int) = n - 1) := by
  rw [mem_nbr, mem_ring, mem_ring, mem_path, mem_path, Prod.mk.injEq, Prod.mk.injEq]
  dsimp only
  omega
theorem ring_dot (h : 2 < n ∧ n ≤ 100) {i p : Nat} (hi : i < n) : dot n (row (ringT n) i) p = (p.testBit i).xor ((p.testBit (if i = 0 then n - 1 else i - 1)).xor (p.testBit (if i + 1 = n then 0 else i + 1))) := by
  rw [dot_list (ring_wb h) hi (L := [i, if i = 0 then n - 1 else i - 1, if i + 1 = n then 0 else i + 1]) ?_ fun j => ?_]
  · simp [xs]
  · simp only [List.nodup_cons, List.mem_cons, List.not_mem_nil, or_false, not_or, not_false_eq_true, List.nodup_nil, and_true]
    split <;> split <;> omega
  · rw [ring_nbr h.1]
    simp only [List.mem_cons, List.not_mem_nil, or_false]
    split <;> split <;> omega
def patR (x y : Bool) (i : Nat) : Bool := if i % 3 = 0 then x else if i % 3 = 1 then y else x.xor y
theorem patR_next (x y : Bool) (i : Nat) : patR x y (i + 2) = (patR x y (i + 1)).xor (patR x y i) := by
  unfold patR
  have : i % 3 = 0 ∨ i % 3 = 1 ∨ i % 3 = 2 := by omega
  rcases this with h | h | h
  · rw [if_neg (by omega), if_neg (by omega), if_neg (by omega), if_pos (by omega), if_pos h]; cases x <;> cases y <;> rfl
  · rw [if_pos (by omega), if_neg (by omega), if_neg (by omega), if_neg (by omega), if_pos h]; cases x <;> cases y <;> rfl
  · rw [if_neg (by omega), if_pos (by omega), if_pos (by omega), if_neg (by omega), if_neg (by omega)]; cases x <;> cases y <;> rfl
theorem ring_ker (h : 2 < n ∧ n ≤ 100) {p : Nat} (hk : pic (row (ringT n)) n p = 0) : ∀ i, i + 1 < n → p.testBit i = patR (p.testBit 0) (p.testBit 1) i ∧ p.testBit (i + 1) = patR (p.testBit 0) (p.testBit 1) (i + 1) := by
  have hd := (ker_iff (ring_wb h)).mp hk
  intro i
  induction i with
  | zero => exact fun _ => ⟨rfl, rfl⟩
  | succ i ih =>
    intro hi
    obtain ⟨e1, e2⟩ := ih (by omega)
    have e := hd (i + 1) (by omega)
    rw [ring_dot h (by omega), if_neg (by omega), if_neg (by omega), Nat.add_sub_cancel] at e
    refine ⟨e2, ?_⟩
    rw [patR_next, ← e1, ← e2]
    revert e
    cases p.testBit i <;> cases p.testBit (i + 1) <;> cases p.testBit (i + 1 + 1) <;> decide
theorem ring_slack {fu : Nat} (h : 2 < n ∧ n ≤ 100) (hf : n < fu) : m_slack fu n (ringT n) = some (if n % 3 = 0 then 2 else 0) := by
  have all : ∀ {p : Nat}, pic (row (ringT n)) n p = 0 → ∀ i, i < n → p.testBit i = patR (p.testBit 0) (p.testBit 1) i := fun {p} hk i hi => by
    by_cases q : i + 1 < n
    · exact (ring_ker h hk i q).1
    · have e := (ring_ker h hk (n - 2) (by omega)).2
      have : n - 2 + 1 = i := by omega
      rw [this] at e
      exact e
  have ends : ∀ {p : Nat}, pic (row (ringT n)) n p = 0 → (p.testBit 0).xor ((p.testBit (n - 1)).xor (p.testBit 1)) = false ∧ (p.testBit (n - 1)).xor ((p.testBit (n - 2)).xor (p.testBit 0)) = false := fun {p} hk => by
    have hd := (ker_iff (ring_wb h)).mp hk
    have e1 := hd 0 (by omega)
    have e2 := hd (n - 1) (by omega)
    rw [ring_dot h (by omega), if_pos rfl, if_neg (by omega)] at e1
    rw [ring_dot h (by omega), if_neg (by omega), if_pos (by omega)] at e2
    exact ⟨e1, e2⟩
  by_cases hm : n % 3 = 0
  · rw [if_pos hm]
    have hb : ∀ x y, mkF n (patR x y) < 2 ^ n ∧ ∀ i, i < n → (mkF n (patR x y)).testBit i = patR x y i := fun x y => mkF_spec n (patR x y)
    refine slack_eq (ring_wb h) hf (d := 2) (C := [0, 1, 2, 3]) (g := fun c => mkF n (patR (c.testBit 0) (c.testBit 1))) (by decide) rfl (fun c hc => ⟨(hb _ _).1, (ker_iff (ring_wb h)).mpr fun i hi => ?_⟩) (fun c hc c' hc' e => ?_) fun p hp hk => ?_
    · generalize c.testBit 0 = x
      generalize c.testBit 1 = y
      have b := (hb x y).2
      rw [ring_dot h hi, b i hi, b _ (by split <;> omega), b _ (by split <;> omega)]
      by_cases q0 : i = 0
      · rw [if_pos q0, if_neg (by omega), q0]
        unfold patR
        rw [if_pos rfl, if_neg (by omega), if_neg (by omega), if_neg (by omega), if_pos rfl]
        cases x <;> cases y <;> rfl
      · rw [if_neg q0]
        by_cases q1 : i + 1 = n
        · rw [if_pos q1]
          unfold patR
          rw [if_neg (by omega), if_neg (by omega), if_neg (by omega), if_pos (by omega), if_pos rfl]
          cases x <;> cases y <;> rfl
        · rw [if_neg q1]
          have e := patR_next x y (i - 1)
          have e1 : i - 1 + 2 = i + 1 := by omega
          have e2 : i - 1 + 1 = i := by omega
          rw [e1, e2] at e
          rw [e]
          cases patR x y i <;> cases patR x y (i - 1) <;> rfl
    · have e0 := congrArg (fun z : Nat => z.testBit 0) e
      have e1 := congrArg (fun z : Nat => z.testBit 1) e
      simp only [(hb _ _).2 0 (by omega), (hb _ _).2 1 (by omega)] at e0 e1
      have f0 : ∀ x y, patR x y 0 = x := fun _ _ => rfl
      have f1 : ∀ x y, patR x y 1 = y := fun _ _ => rfl
      rw [f0, f0] at e0
      rw [f1, f1] at e1
      have hcs : ∀ c ∈ [0, 1, 2, 3], ∀ c' ∈ [0, 1, 2, 3], c.testBit 0 = c'.testBit 0 → c.testBit 1 = c'.testBit 1 → c = c' := by decide
      exact hcs c hc c' hc' e0 e1
    · have hcs : ∀ x y : Bool, ∃ c ∈ [0, 1, 2, 3], c.testBit 0 = x ∧ c.testBit 1 = y := by decide
      obtain ⟨c, hc, e0, e1⟩ := hcs (p.testBit 0) (p.testBit 1)
      refine ⟨c, hc, ?_⟩
      rw [e0, e1]
      refine mask_ext (hb _ _).1 hp fun i hi => ?_
      rw [(hb _ _).2 i hi, all hk i hi]
  · rw [if_neg hm]
    refine slack_eq (ring_wb h) hf (d := 0) (C := [0]) (g := fun c => 0) (by decide) rfl (fun c hc => ⟨Nat.two_pow_pos n, pic_zero _ _⟩) (fun c hc c' hc' e => ?_) fun p hp hk => ⟨0, by simp, ?_⟩
    · rw [List.mem_singleton.mp hc, List.mem_singleton.mp hc']
    · have a := all hk
      obtain ⟨e1, e2⟩ := ends hk
      have b0 : p.testBit 0 = false ∧ p.testBit 1 = false := by
        have a1 := a (n - 1) (by omega)
        have a2 := a (n - 2) (by omega)
        rw [a1] at e1 e2
        rw [a2] at e2
        clear a1 a2 a
        have : n % 3 = 1 ∨ n % 3 = 2 := by omega
        unfold patR at e1 e2
        rcases this with q | q
        · rw [if_pos (by omega)] at e1 e2
          rw [if_neg (by omega), if_neg (by omega)] at e2
          revert e1 e2
          cases p.testBit 0 <;> cases p.testBit 1 <;> decide
        · rw [if_neg (by omega), if_pos (by omega)] at e1 e2
          rw [if_pos (by omega)] at e2
          revert e1 e2
          cases p.testBit 0 <;> cases p.testBit 1 <;> decide
      refine mask_ext (Nat.two_pow_pos n) hp fun i hi => ?_
      rw [a i hi, b0.1, b0.2, Nat.zero_testBit]
      unfold patR
      split
      · rfl
      · split <;> rfl
/-! whole webs -/
theorem whole_dot (h : n ≤ 100) {i p : Nat} (hi : i < n) : dot n (row (wholeT n) i) p = par n fun j => p.testBit j := by
  unfold dot
  refine par_congr fun j hj => ?_
  have : (row (wholeT n) i).testBit j = true := by
    rw [row_bit (whole_wb h) hi hj, mem_nbr, mem_whole, mem_whole]
    dsimp only
    omega
  rw [this, Bool.true_and]
theorem whole_slack {fu : Nat} (h1 : 1 ≤ n) (h : n ≤ 100) (hf : n < fu) : m_slack fu n (wholeT n) = some ((n : Int) - 1) := by
  obtain ⟨m, rfl⟩ : ∃ m, n = m + 1 := ⟨n - 1, by omega⟩
  have hb : ∀ q : Nat, mkF (m + 1) (fun i => if i < m then q.testBit i else par m fun j => q.testBit j) < 2 ^ (m + 1) ∧ ∀ i, i < m + 1 → (mkF (m + 1) (fun i => if i < m then q.testBit i else par m fun j => q.testBit j)).testBit i = if i < m then q.testBit i else par m fun j => q.testBit j := fun q => mkF_spec (m + 1) _
  have e : ((m + 1 : Nat) : Int) - 1 = ((m : Nat) : Int) := by omega
  rw [e]
  refine slack_eq (whole_wb h) hf (d := m) (C := List.range (2 ^ m)) (g := fun q => mkF (m + 1) fun i => if i < m then q.testBit i else par m fun j => q.testBit j) List.nodup_range (by rw [List.length_range]) (fun c hc => ⟨(hb c).1, (ker_iff (whole_wb h)).mpr fun i hi => ?_⟩) (fun c hc c' hc' e => ?_) fun p hp hk => ?_
  · rw [whole_dot h hi]
    show (par m fun j => (mkF (m + 1) _).testBit j).xor ((mkF (m + 1) _).testBit m) = false
    rw [(hb c).2 m (by omega), if_neg (Nat.lt_irrefl _), par_congr (g := fun j => c.testBit j) fun j hj => by rw [(hb c).2 j (by omega), if_pos hj]]
    exact Bool.xor_self _
  · refine mask_ext (List.mem_range.mp hc) (List.mem_range.mp hc') fun i hi => ?_
    have := congrArg (fun z : Nat => z.testBit i) e
    simp only [(hb c).2 i (by omega), (hb c').2 i (by omega), if_pos hi] at this
    exact this
  · refine ⟨p % 2 ^ m, List.mem_range.mpr (Nat.mod_lt _ (Nat.two_pow_pos m)), mask_ext (hb _).1 hp fun i hi => ?_⟩
    have hlow : ∀ j, j < m → (p % 2 ^ m).testBit j = p.testBit j := fun j hj => by rw [Nat.testBit_mod_two_pow, decide_eq_true hj, Bool.true_and]
    rw [(hb _).2 i hi]
    by_cases q : i < m
    · rw [if_pos q, hlow i q]
    · have : i = m := by omega
      subst this
      rw [if_neg (Nat.lt_irrefl _), par_congr hlow]
      have e := (ker_iff (whole_wb h)).mp hk 0 (by omega)
      rw [whole_dot h (by omega)] at e
      have e' : (par i fun j => p.testBit j).xor (p.testBit i) = false := e
      revert e'
      cases (par i fun j => p.testBit j) <;> cases p.testBit i <;> decide
end
end Prog
namespace Prog
open PySem L2 Mir Lmp
def cell (rows cols x y : Int) : List (Int × Int) := (if decide (y + 1 < rows) then [(x * rows + y, x * rows + y + 1)] else []) ++ (if decide (x + 1 < cols) then [(x * rows + y, (x + 1) * rows + y)] else [])
def boardT (rows cols : Int) : List (Int × Int) := (rng 0 cols).flatMap fun x => (rng 0 rows).flatMap fun y => cell rows cols x y
theorem cell_len (rows cols x y : Int) : (cell rows cols x y).length ≤ 2 := by
  unfold cell
  rw [List.length_append]
  split <;> split <;> simp
theorem mulO_eq {i j : Int} (h : -1000 ≤ i ∧ i ≤ 1000) : mulO i j = some (i * j) := by
  unfold mulO
  refine if_pos ?_
  rw [Bool.or_eq_true]
  left
  rw [smallI_iff]
  constructor
  · have : (-(2 ^ 64) : Int) < -1000 := by decide
    omega
  · have : (1000 : Int) < 2 ^ 64 := by decide
    omega
theorem flat2_len {f : Int → List (Int × Int)} {m : Nat} : ∀ p : List Int, (∀ x ∈ p, (f x).length ≤ m) → (p.flatMap f).length ≤ p.length * m
  | [], _ => by simp
  | x :: p, h => by
    have ih := flat2_len p fun y hy => h y (List.mem_cons_of_mem _ hy)
    have := h x List.mem_cons_self
    rw [List.flatMap_cons, List.length_append, List.length_cons, Nat.succ_mul]
    omega
theorem board_eq {rows cols : Int} (hr : 1 ≤ rows ∧ rows ≤ 12) (hc : 1 ≤ cols ∧ cols ≤ 12) : m__law_board rows cols = some ((boardT rows cols).mergeSort leP) := by
  unfold m__law_board
  dsimp only
  rw [rngO_eq (by omega) (by omega), Option.bind_some]
  have hcol : ∀ x, ((rng 0 rows).flatMap fun y => cell rows cols x y).length ≤ 24 := fun x => by
    have := flat2_len (f := fun y => cell rows cols x y) (m := 2) (rng 0 rows) fun y _ => cell_len rows cols x y
    rw [rng_len] at this
    omega
  have hall : ∀ p : List Int, p.length ≤ 12 → (p.flatMap fun x => (rng 0 rows).flatMap fun y => cell rows cols x y).length ≤ 288 := fun p hp => by
    have := flat2_len (f := fun x => (rng 0 rows).flatMap fun y => cell rows cols x y) (m := 24) p fun x _ => hcol x
    omega
  refine Ho.eq (Ho.bind (P := fun s => s = boardT rows cols) ?_ fun s hs => ?_)
  · refine (ho_foldI (Inv := fun p s => s = p.flatMap fun x => (rng 0 rows).flatMap fun y => cell rows cols x y) (pre := []) rfl fun p x s ⟨q, e⟩ i => ?_).mono fun s hs => hs
    rw [List.nil_append] at e
    have hx := mem_rng.mp (show x ∈ rng 0 cols by rw [e]; simp)
    have hl := congrArg List.length e
    rw [rng_len, List.length_append, List.length_cons] at hl
    have hs := hall p (by omega)
    rw [← i] at hs
    rw [rngO_eq (by omega) (by omega), Option.bind_some]
    refine Ho.bind (P := fun t => t = s ++ (rng 0 rows).flatMap fun y => cell rows cols x y) ?_ fun t ht => ho_some ?_
    · refine (ho_foldI (Inv := fun p t => t = s ++ p.flatMap fun y => cell rows cols x y) (pre := []) (by simp) fun p2 y t ⟨q2, e2⟩ i2 => ?_).mono fun t ht => ht
      rw [List.nil_append] at e2
      have hl2 := congrArg List.length e2
      rw [rng_len, List.length_append, List.length_cons] at hl2
      have hp2 := flat2_len (f := fun y => cell rows cols x y) (m := 2) p2 fun y _ => cell_len rows cols x y
      have ht : t.length ≤ 1000 := by rw [i2, List.length_append]; omega
      simp only [mulO_eq (i := x) (j := rows) (by omega), mulO_eq (i := x + 1) (j := rows) (by omega), Option.bind_some]
      have e3 : (if decide (y + 1 < rows) then some [(x * rows + y, x * rows + y + 1)] else some ([] : List (Int × Int))) = some (if decide (y + 1 < rows) then [(x * rows + y, x * rows + y + 1)] else []) := by cases decide (y + 1 < rows) <;> rfl
      have e4 : (if decide (x + 1 < cols) then some [(x * rows + y, (x + 1) * rows + y)] else some ([] : List (Int × Int))) = some (if decide (x + 1 < cols) then [(x * rows + y, (x + 1) * rows + y)] else []) := by cases decide (x + 1 < cols) <;> rfl
      have h3 : (if decide (y + 1 < rows) then [(x * rows + y, x * rows + y + 1)] else []).length ≤ 1 := by split <;> simp
      have h4 : (if decide (x + 1 < cols) then [(x * rows + y, (x + 1) * rows + y)] else []).length ≤ 1 := by split <;> simp
      rw [e3, Option.bind_some, catO_eq (by omega), Option.bind_some, e4, Option.bind_some, catO_eq (by rw [List.length_append]; omega), Option.bind_some]
      refine ho_some ?_
      rw [i2, List.flatMap_append, List.append_assoc, List.append_assoc]
      unfold cell
      simp
    · rw [ht, i, List.flatMap_append]
      simp
  · have := hall (rng 0 cols) (by rw [rng_len]; omega)
    rw [hs, tupO_eq (by rw [ms_len]; unfold boardT; omega)]
    exact ho_some rfl
theorem mem_cell {rows cols x y : Int} {t : Int × Int} : t ∈ cell rows cols x y ↔ t.1 = x * rows + y ∧ ((y + 1 < rows ∧ t.2 = x * rows + y + 1) ∨ (x + 1 < cols ∧ t.2 = (x + 1) * rows + y)) := by
  unfold cell
  rw [List.mem_append]
  constructor
  · rintro (h | h)
    · split at h
      · rename_i hc
        have e := List.mem_singleton.mp h
        subst e
        exact ⟨rfl, .inl ⟨of_decide_eq_true hc, rfl⟩⟩
      · cases h
    · split at h
      · rename_i hc
        have e := List.mem_singleton.mp h
        subst e
        exact ⟨rfl, .inr ⟨of_decide_eq_true hc, rfl⟩⟩
      · cases h
  · rintro ⟨h1, ⟨h2, h3⟩ | ⟨h2, h3⟩⟩
    · left
      rw [decide_eq_true h2, if_pos rfl]
      exact List.mem_singleton.mpr (Prod.ext h1 h3)
    · right
      rw [decide_eq_true h2, if_pos rfl]
      exact List.mem_singleton.mpr (Prod.ext h1 h3)
theorem mem_board {rows cols : Int} {t : Int × Int} : t ∈ boardT rows cols ↔ ∃ x y, (0 ≤ x ∧ x < cols) ∧ (0 ≤ y ∧ y < rows) ∧ t.1 = x * rows + y ∧ ((y + 1 < rows ∧ t.2 = x * rows + y + 1) ∨ (x + 1 < cols ∧ t.2 = (x + 1) * rows + y)) := by
  unfold boardT
  rw [List.mem_flatMap]
  constructor
  · rintro ⟨x, hx, h⟩
    obtain ⟨y, hy, h⟩ := List.mem_flatMap.mp h
    exact ⟨x, y, mem_rng.mp hx, mem_rng.mp hy, mem_cell.mp h⟩
  · rintro ⟨x, y, hx, hy, h⟩
    exact ⟨x, mem_rng.mpr hx, List.mem_flatMap.mpr ⟨y, mem_rng.mpr hy, mem_cell.mpr h⟩⟩
theorem col_le {rows x z : Int} (hr : 0 ≤ rows) (h : x < z) : x * rows + rows ≤ z * rows := by
  have : (x + 1) * rows ≤ z * rows := Int.mul_le_mul_of_nonneg_right (by omega) hr
  rw [Int.add_mul, Int.one_mul] at this
  exact this
theorem place_uniq {rows x y x' y' : Int} (hr : 0 ≤ rows) (hy : 0 ≤ y ∧ y < rows) (hy' : 0 ≤ y' ∧ y' < rows) (h : x * rows + y = x' * rows + y') : x = x' ∧ y = y' := by
  rcases Int.lt_trichotomy x x' with h1 | h1 | h1
  · have := col_le hr h1; omega
  · subst h1; omega
  · have := col_le hr h1; omega
theorem succ_mul' (x rows : Int) : (x + 1) * rows = x * rows + rows := by rw [Int.add_mul, Int.one_mul]
theorem board_web {rows cols : Int} (hr : 1 ≤ rows) : Web (rows * cols) (boardT rows cols) := ⟨fun t h => by
  obtain ⟨x, y, hx, hy, e, h⟩ := mem_board.mp h
  have h0 : 0 ≤ x * rows := Int.mul_nonneg hx.1 (by omega)
  have h1 := col_le (rows := rows) (by omega) hx.2
  have e2 : cols * rows = rows * cols := Int.mul_comm _ _
  refine ⟨by omega, ?_, ?_⟩
  · rcases h with ⟨a, b⟩ | ⟨a, b⟩
    · omega
    · rw [succ_mul'] at b; omega
  · rcases h with ⟨a, b⟩ | ⟨a, b⟩
    · omega
    · have := col_le (rows := rows) (by omega) a
      omega⟩
theorem board_nodup {rows cols : Int} (hr : 1 ≤ rows) : (boardT rows cols).Nodup := by
  unfold boardT
  show List.Pairwise (· ≠ ·) _
  rw [List.pairwise_flatMap]
  refine ⟨fun x hx => ?_, (rng_lt 0 cols).imp fun {x z} hxz s hs t ht e => ?_⟩
  · rw [List.pairwise_flatMap]
    refine ⟨fun y hy => ?_, (rng_lt 0 rows).imp fun {y z} hyz s hs t ht e => ?_⟩
    · have hy := mem_rng.mp hy
      unfold cell
      rw [List.pairwise_append]
      refine ⟨by split <;> simp, by split <;> simp, fun s hs t ht e => ?_⟩
      split at hs
      · rename_i h1
        have h1 := of_decide_eq_true h1
        split at ht
        · have e1 := List.mem_singleton.mp hs
          have e2 := List.mem_singleton.mp ht
          rw [e1, e2] at e
          injection e with _ e
          rw [succ_mul'] at e
          omega
        · cases ht
      · cases hs
    · have a := (mem_cell.mp hs).1
      have b := (mem_cell.mp ht).1
      rw [e] at a
      omega
  · obtain ⟨y, hy, hs⟩ := List.mem_flatMap.mp hs
    obtain ⟨y', hy', ht⟩ := List.mem_flatMap.mp ht
    have hy := mem_rng.mp hy
    have hy' := mem_rng.mp hy'
    have a := (mem_cell.mp hs).1
    have b := (mem_cell.mp ht).1
    rw [e] at a
    have := (place_uniq (by omega) hy hy' (a.symm.trans b)).1
    omega
theorem perm_web {n : Int} {ties ties' : List (Int × Int)} (h : ties.Perm ties') (w : Web n ties') : Web n ties := ⟨fun t ht => w.rg t (h.subset ht)⟩
end Prog
namespace Prog
open PySem L2 Mir Lmp
/-! ### slacks of boards -/
def brd (s : Nat) : List (Int × Int) := (boardT s s).mergeSort leP
theorem board_wb {s : Nat} (h : 1 ≤ s ∧ s ≤ 7) : Wb (s * s) (brd s) := by
  refine ⟨?_, ?_, ?_⟩
  · have := board_web (rows := s) (cols := s) (by omega)
    rw [← Int.natCast_mul] at this
    exact perm_web (List.mergeSort_perm _ _) this
  · exact (List.mergeSort_perm _ _).nodup_iff.mpr (board_nodup (by omega))
  · have := Nat.mul_le_mul h.2 h.2
    omega
def nx (s a b : Nat) : Nat := (b ^^^ (b * 2) ^^^ (b / 2) ^^^ a) % 2 ^ s
def two (s c : Nat) : Nat → Nat × Nat
  | 0 => (0, c)
  | x + 1 => ((two s c x).2, nx s (two s c x).1 (two s c x).2)
theorem nx_bit {s a b y : Nat} (hy : y < s) : (nx s a b).testBit y = (((b.testBit y).xor (decide (0 < y) && b.testBit (y - 1))).xor (b.testBit (y + 1))).xor (a.testBit y) := by
  have e1 : (b * 2).testBit y = (decide (0 < y) && b.testBit (y - 1)) := by
    have := Nat.testBit_mul_two_pow b y 1
    rw [Nat.pow_one] at this
    rw [this]
    congr 1
  have e2 : (b / 2).testBit y = b.testBit (y + 1) := (Nat.testBit_add_one b y).symm
  unfold nx
  rw [Nat.testBit_mod_two_pow, decide_eq_true hy, Bool.true_and, Nat.testBit_xor, Nat.testBit_xor, Nat.testBit_xor, e1, e2]
theorem two_lt {s c : Nat} (hc : c < 2 ^ s) : ∀ x, (two s c x).1 < 2 ^ s ∧ (two s c x).2 < 2 ^ s
  | 0 => ⟨Nat.two_pow_pos s, hc⟩
  | x + 1 => ⟨(two_lt hc x).2, Nat.mod_lt _ (Nat.two_pow_pos s)⟩
theorem xs_app (A B : List Nat) (f : Nat → Bool) : xs (A ++ B) f = (xs A f).xor (xs B f) := by
  induction A with
  | nil => show xs B f = (false).xor (xs B f); rw [Bool.false_xor]
  | cons a A ih =>
    show (f a).xor (xs (A ++ B) f) = ((f a).xor (xs A f)).xor (xs B f)
    rw [ih, Bool.xor_assoc]
theorem xs_if {c : Prop} [Decidable c] (j : Nat) (f : Nat → Bool) : xs (if c then [j] else []) f = (decide c && f j) := by
  split
  · rename_i h; rw [decide_eq_true h]; show (f j).xor false = _; rw [Bool.xor_false, Bool.true_and]
  · rename_i h; rw [decide_eq_false h]; rfl
section
variable {s : Nat} (h : 1 ≤ s ∧ s ≤ 7)
include h
theorem board_nbr {X Y : Nat} (hX : X < s) (hY : Y < s) {j : Nat} : (j : Int) ∈ nbr (brd s) ((X * s + Y : Nat) : Int) ↔ (Y + 1 < s ∧ j = X * s + Y + 1) ∨ (X + 1 < s ∧ j = X * s + Y + s) ∨ (0 < Y ∧ j + 1 = X * s + Y) ∨ (0 < X ∧ j + s = X * s + Y) := by
  have hc : ((X * s + Y : Nat) : Int) = (X : Int) * s + Y := by rw [Int.natCast_add, Int.natCast_mul]
  have hm : ∀ t, t ∈ brd s ↔ t ∈ boardT s s := fun t => (List.mergeSort_perm _ _).mem_iff
  rw [mem_nbr, hm, hm, mem_board, mem_board]
  constructor
  · rintro (⟨x, y, hx, hy, e, hh⟩ | ⟨x, y, hx, hy, e, hh⟩)
    · dsimp only at e hh
      rw [hc] at e
      obtain ⟨rfl, rfl⟩ := place_uniq (rows := (s : Int)) (by omega) (by omega : 0 ≤ (Y : Int) ∧ (Y : Int) < s) hy e
      rcases hh with ⟨a, b⟩ | ⟨a, b⟩
      · left
        refine ⟨by omega, ?_⟩
        have : (j : Int) = ((X * s + Y : Nat) : Int) + 1 := by rw [hc]; exact b
        omega
      · right; left
        refine ⟨by omega, ?_⟩
        rw [succ_mul'] at b
        have : (j : Int) = ((X * s + Y : Nat) : Int) + s := by rw [hc, b]; omega
        omega
    · dsimp only at e hh
      rcases hh with ⟨a, b⟩ | ⟨a, b⟩
      · rw [hc] at b
        have b' : (X : Int) * s + Y = x * s + (y + 1) := by rw [b]; omega
        obtain ⟨e1, e2⟩ := place_uniq (rows := (s : Int)) (by omega) (by omega : 0 ≤ (Y : Int) ∧ (Y : Int) < s) (by omega : 0 ≤ y + 1 ∧ y + 1 < s) b'
        right; right; left
        refine ⟨by omega, ?_⟩
        have : (j : Int) + 1 = ((X * s + Y : Nat) : Int) := by rw [hc, e, b]
        omega
      · rw [hc] at b
        obtain ⟨e1, e2⟩ := place_uniq (rows := (s : Int)) (by omega) (by omega : 0 ≤ (Y : Int) ∧ (Y : Int) < s) hy b
        right; right; right
        refine ⟨by omega, ?_⟩
        rw [succ_mul'] at b
        have : (j : Int) + s = ((X * s + Y : Nat) : Int) := by rw [hc, e, b]; omega
        omega
  · rintro (⟨a, b⟩ | ⟨a, b⟩ | ⟨a, b⟩ | ⟨a, b⟩)
    · left
      refine ⟨X, Y, by omega, by omega, hc, .inl ⟨by omega, ?_⟩⟩
      dsimp only
      rw [← hc]; omega
    · left
      refine ⟨X, Y, by omega, by omega, hc, .inr ⟨by omega, ?_⟩⟩
      dsimp only
      rw [succ_mul']
      have : (j : Int) = ((X * s + Y : Nat) : Int) + s := by omega
      rw [this, hc]; omega
    · right
      refine ⟨X, (Y : Int) - 1, by omega, by omega, ?_, .inl ⟨by omega, ?_⟩⟩
      · dsimp only
        have : (j : Int) + 1 = ((X * s + Y : Nat) : Int) := by omega
        rw [hc] at this; omega
      · dsimp only
        rw [hc]; omega
    · right
      refine ⟨(X : Int) - 1, Y, by omega, by omega, ?_, .inr ⟨by omega, ?_⟩⟩
      · dsimp only
        have : (j : Int) + s = ((X * s + Y : Nat) : Int) := by omega
        rw [hc] at this
        rw [Int.sub_mul, Int.one_mul]; omega
      · dsimp only
        rw [hc, Int.sub_add_cancel]
theorem board_dot {X Y p : Nat} (hX : X < s) (hY : Y < s) (hp : p < 2 ^ (s * s)) : dot (s * s) (row (brd s) (X * s + Y)) p
    = ((p.testBit (X * s + Y)).xor (decide (Y + 1 < s) && p.testBit (X * s + Y + 1))).xor ((p.testBit ((X + 1) * s + Y)).xor ((decide (0 < Y) && p.testBit (X * s + Y - 1)).xor (decide (0 < X) && p.testBit (X * s + Y - s)))) := by
  have m1 : X * s + s ≤ s * s := by
    have := Nat.mul_le_mul_right s (show X + 1 ≤ s by omega)
    rw [Nat.succ_mul] at this
    exact this
  have m2 : X + 1 < s → X * s + s + s ≤ s * s := fun q => by
    have := Nat.mul_le_mul_right s (show X + 2 ≤ s by omega)
    rw [Nat.add_mul] at this
    omega
  have m3 : 0 < X → s ≤ X * s := fun q => Nat.le_mul_of_pos_left s q
  have m4 : (X + 1) * s + Y = X * s + Y + s := by rw [Nat.succ_mul]; omega
  rw [dot_list (board_wb h) (by omega) (L := [X * s + Y] ++ ((if Y + 1 < s then [X * s + Y + 1] else []) ++ ((if X + 1 < s then [X * s + Y + s] else []) ++ ((if 0 < Y then [X * s + Y - 1] else []) ++ (if 0 < X then [X * s + Y - s] else []))))) ?_ fun j => ?_]
  · rw [xs_app, xs_app, xs_app, xs_app, xs_if, xs_if, xs_if, xs_if, m4]
    have e : (decide (X + 1 < s) && p.testBit (X * s + Y + s)) = p.testBit (X * s + Y + s) := by
      by_cases q : X + 1 < s
      · rw [decide_eq_true q, Bool.true_and]
      · rw [decide_eq_false q, Bool.false_and]
        have : X + 1 = s := by omega
        have e2 : (X + 1) * s = s * s := by rw [this]
        exact (high_bit hp (by rw [Nat.succ_mul] at e2; omega)).symm
    rw [e]
    have e5 : xs [X * s + Y] (fun j => p.testBit j) = p.testBit (X * s + Y) := Bool.xor_false _
    rw [e5, Bool.xor_assoc]
  · generalize X * s = z at *
    by_cases q1 : Y + 1 < s <;> by_cases q2 : X + 1 < s <;> by_cases q3 : 0 < Y <;> by_cases q4 : 0 < X <;> simp only [q1, q2, q3, q4, if_true, if_false, List.cons_append, List.nil_append, List.append_nil, List.nodup_cons, List.mem_cons, List.not_mem_nil, or_false, not_or, not_false_eq_true, List.nodup_nil, and_true] <;> omega
  · rw [board_nbr h hX hY]
    generalize X * s = z at *
    by_cases q1 : Y + 1 < s <;> by_cases q2 : X + 1 < s <;> by_cases q3 : 0 < Y <;> by_cases q4 : 0 < X <;> simp only [q1, q2, q3, q4, if_true, if_false, List.cons_append, List.nil_append, List.append_nil, List.mem_cons, List.not_mem_nil, or_false, true_and, false_and, false_or] <;> omega
end
end Prog
namespace Prog
open PySem L2 Mir Lmp
section
variable {s : Nat} (h : 1 ≤ s ∧ s ≤ 7)
theorem place_lt {X Y : Nat} (hX : X < s) (hY : Y < s) : X * s + Y < s * s := by
  have := Nat.mul_le_mul_right s (show X + 1 ≤ s by omega)
  rw [Nat.succ_mul] at this
  omega
include h
theorem board_cols {p : Nat} (hp : p < 2 ^ (s * s)) (hk : pic (row (brd s)) (s * s) p = 0) : ∀ X, X ≤ s → ∀ Y, Y < s →
    p.testBit (X * s + Y) = (two s (p % 2 ^ s) X).2.testBit Y ∧ (decide (0 < X) && p.testBit (X * s + Y - s)) = (two s (p % 2 ^ s) X).1.testBit Y := by
  have hd := (ker_iff (board_wb h)).mp hk
  have hc : p % 2 ^ s < 2 ^ s := Nat.mod_lt _ (Nat.two_pow_pos s)
  intro X
  induction X with
  | zero =>
    intro _ Y hY
    refine ⟨?_, ?_⟩
    · rw [Nat.zero_mul, Nat.zero_add]
      show _ = (p % 2 ^ s).testBit Y
      rw [Nat.testBit_mod_two_pow, decide_eq_true hY, Bool.true_and]
    · show _ = (0 : Nat).testBit Y
      rw [Nat.zero_testBit]
      rfl
  | succ X ih =>
    intro hX Y hY
    have ih := ih (by omega)
    refine ⟨?_, ?_⟩
    · have d := hd _ (place_lt (X := X) (by omega) hY)
      rw [board_dot h (by omega) hY hp] at d
      show _ = (nx s (two s (p % 2 ^ s) X).1 (two s (p % 2 ^ s) X).2).testBit Y
      have b1 := (two_lt hc X).2
      have u1 : (decide (Y + 1 < s) && p.testBit (X * s + Y + 1)) = (two s (p % 2 ^ s) X).2.testBit (Y + 1) := by
        by_cases q : Y + 1 < s
        · rw [decide_eq_true q, Bool.true_and]
          exact (ih (Y + 1) q).1
        · rw [decide_eq_false q, Bool.false_and]
          exact (high_bit b1 (by omega)).symm
      have u2 : (decide (0 < Y) && p.testBit (X * s + Y - 1)) = (decide (0 < Y) && (two s (p % 2 ^ s) X).2.testBit (Y - 1)) := by
        by_cases q : 0 < Y
        · rw [decide_eq_true q, Bool.true_and, Bool.true_and, ← (ih (Y - 1) (by omega)).1]
          congr 1
          omega
        · rw [decide_eq_false q, Bool.false_and, Bool.false_and]
      rw [nx_bit hY, ← (ih Y hY).1, ← (ih Y hY).2, ← u1, ← u2]
      revert d
      cases p.testBit (X * s + Y) <;> cases (decide (Y + 1 < s) && p.testBit (X * s + Y + 1)) <;> cases p.testBit ((X + 1) * s + Y) <;> cases (decide (0 < Y) && p.testBit (X * s + Y - 1)) <;> cases (decide (0 < X) && p.testBit (X * s + Y - s)) <;> decide
    · rw [decide_eq_true (Nat.succ_pos X), Bool.true_and]
      show _ = (two s (p % 2 ^ s) X).2.testBit Y
      rw [← (ih Y hY).1]
      congr 1
      rw [Nat.succ_mul]
      omega
def brdC (s : Nat) : List Nat := (List.range (2 ^ s)).filter fun c => (two s c s).2 == 0
theorem board_slack {fu d : Nat} (hf : s * s < fu) (hl : (brdC s).length = 2 ^ d) : m_slack fu ((s * s : Nat) : Int) (brd s) = some (d : Int) := by
  have hbit : ∀ c : Nat, mkF (s * s) (fun i => (two s c (i / s)).2.testBit (i % s)) < 2 ^ (s * s) ∧ ∀ X Y, X < s → Y < s → (mkF (s * s) (fun i => (two s c (i / s)).2.testBit (i % s))).testBit (X * s + Y) = (two s c X).2.testBit Y := fun c => by
    obtain ⟨a, b⟩ := mkF_spec (s * s) (fun i => (two s c (i / s)).2.testBit (i % s))
    refine ⟨a, fun X Y hX hY => ?_⟩
    rw [b _ (place_lt hX hY)]
    have e1 : (X * s + Y) / s = X := by rw [Nat.mul_comm, Nat.mul_add_div (by omega), Nat.div_eq_of_lt hY, Nat.add_zero]
    have e2 : (X * s + Y) % s = Y := by rw [Nat.mul_comm, Nat.mul_add_mod, Nat.mod_eq_of_lt hY]
    show (two s c ((X * s + Y) / s)).2.testBit ((X * s + Y) % s) = _
    rw [e1, e2]
  have hC : ∀ c, c ∈ brdC s ↔ c < 2 ^ s ∧ (two s c s).2 = 0 := fun c => by
    unfold brdC
    rw [List.mem_filter, List.mem_range, beq_iff_eq]
  refine slack_eq (board_wb h) hf (C := brdC s) (g := fun c => mkF (s * s) fun i => (two s c (i / s)).2.testBit (i % s)) (List.nodup_range.filter _) hl (fun c hc => ⟨(hbit c).1, (ker_iff (board_wb h)).mpr fun i hi => ?_⟩) (fun c hc c' hc' e => ?_) fun p hp hk => ?_
  · obtain ⟨c1, c2⟩ := (hC c).mp hc
    obtain ⟨a, b⟩ := hbit c
    have hs : 0 < s := by omega
    have hX : i / s < s := Nat.div_lt_of_lt_mul hi
    have hY : i % s < s := Nat.mod_lt _ hs
    have ei : i = i / s * s + i % s := by rw [Nat.mul_comm]; exact (Nat.div_add_mod i s).symm
    generalize i / s = X at hX ei
    generalize i % s = Y at hY ei
    subst ei
    rw [board_dot h hX hY a, b X Y hX hY]
    have b1 := (two_lt c1 X).2
    have u0 : (mkF (s * s) fun i => (two s c (i / s)).2.testBit (i % s)).testBit ((X + 1) * s + Y) = (two s c (X + 1)).2.testBit Y := by
      by_cases q : X + 1 < s
      · exact b (X + 1) Y q hY
      · have : X + 1 = s := by omega
        rw [this, c2, Nat.zero_testBit]
        exact high_bit a (by omega)
    have u1 : (decide (Y + 1 < s) && (mkF (s * s) fun i => (two s c (i / s)).2.testBit (i % s)).testBit (X * s + Y + 1)) = (two s c X).2.testBit (Y + 1) := by
      by_cases q : Y + 1 < s
      · rw [decide_eq_true q, Bool.true_and]
        exact b X (Y + 1) hX q
      · rw [decide_eq_false q, Bool.false_and]
        exact (high_bit b1 (by omega)).symm
    have u2 : (decide (0 < Y) && (mkF (s * s) fun i => (two s c (i / s)).2.testBit (i % s)).testBit (X * s + Y - 1)) = (decide (0 < Y) && (two s c X).2.testBit (Y - 1)) := by
      by_cases q : 0 < Y
      · rw [decide_eq_true q, Bool.true_and, Bool.true_and, ← b X (Y - 1) hX (by omega)]
        congr 1
        omega
      · rw [decide_eq_false q, Bool.false_and, Bool.false_and]
    have u3 : (decide (0 < X) && (mkF (s * s) fun i => (two s c (i / s)).2.testBit (i % s)).testBit (X * s + Y - s)) = (two s c X).1.testBit Y := by
      cases X with
      | zero =>
        show _ = (0 : Nat).testBit Y
        rw [Nat.zero_testBit]
        rfl
      | succ X =>
        rw [decide_eq_true (Nat.succ_pos X), Bool.true_and]
        show _ = (two s c X).2.testBit Y
        rw [← b X Y (by omega) hY]
        congr 1
        rw [Nat.succ_mul]
        omega
    rw [u0, u1, u2, u3]
    show _ = false
    rw [show (two s c (X + 1)).2 = nx s (two s c X).1 (two s c X).2 from rfl, nx_bit hY]
    cases (two s c X).2.testBit Y <;> cases (two s c X).2.testBit (Y + 1) <;> cases (decide (0 < Y) && (two s c X).2.testBit (Y - 1)) <;> cases (two s c X).1.testBit Y <;> rfl
  · obtain ⟨c1, _⟩ := (hC c).mp hc
    obtain ⟨c2, _⟩ := (hC c').mp hc'
    refine mask_ext c1 c2 fun Y hY => ?_
    have := congrArg (fun z : Nat => z.testBit (0 * s + Y)) e
    simp only [(hbit c).2 0 Y (by omega) hY, (hbit c').2 0 Y (by omega) hY] at this
    exact this
  · have cols := board_cols h hp hk
    have hc : p % 2 ^ s < 2 ^ s := Nat.mod_lt _ (Nat.two_pow_pos s)
    refine ⟨p % 2 ^ s, (hC _).mpr ⟨hc, mask_ext (two_lt hc s).2 (Nat.two_pow_pos s) fun Y hY => ?_⟩, mask_ext (hbit _).1 hp fun i hi => ?_⟩
    · rw [← (cols s (Nat.le_refl s) Y hY).1, Nat.zero_testBit]
      exact high_bit hp (by omega)
    · have hs : 0 < s := by omega
      have hX : i / s < s := Nat.div_lt_of_lt_mul hi
      have hY : i % s < s := Nat.mod_lt _ hs
      have ei : i = i / s * s + i % s := by rw [Nat.mul_comm]; exact (Nat.div_add_mod i s).symm
      generalize i / s = X at hX ei
      generalize i % s = Y at hY ei
      subst ei
      rw [(hbit _).2 X Y hX hY, (cols X (by omega) Y hY).1]
end
theorem brd_known : (brdC 1).length = 2 ^ 0 ∧ (brdC 2).length = 2 ^ 0 ∧ (brdC 3).length = 2 ^ 0 ∧ (brdC 4).length = 2 ^ 4 ∧ (brdC 5).length = 2 ^ 2 ∧ (brdC 6).length = 2 ^ 0 ∧ (brdC 7).length = 2 ^ 0 := by decide +kernel
theorem board_all {s : Nat} (h : 1 ≤ s ∧ s ≤ 7) {fu : Nat} (hf : s * s < fu) : ∃ d : Int, m_slack fu ((s * s : Nat) : Int) (brd s) = some d ∧ atO [0, 0, 0, 0, 4, 2, 0, 0] (s : Int) = some d := by
  obtain ⟨k1, k2, k3, k4, k5, k6, k7⟩ := brd_known
  have hs : s = 1 ∨ s = 2 ∨ s = 3 ∨ s = 4 ∨ s = 5 ∨ s = 6 ∨ s = 7 := by omega
  rcases hs with rfl | rfl | rfl | rfl | rfl | rfl | rfl
  · exact ⟨_, board_slack h hf k1, rfl⟩
  · exact ⟨_, board_slack h hf k2, rfl⟩
  · exact ⟨_, board_slack h hf k3, rfl⟩
  · exact ⟨_, board_slack h hf k4, rfl⟩
  · exact ⟨_, board_slack h hf k5, rfl⟩
  · exact ⟨_, board_slack h hf k6, rfl⟩
  · exact ⟨_, board_slack h hf k7, rfl⟩
end Prog
namespace Prog
open PySem L2 Mir Lmp
theorem drawn_ho {n share : Int} (hn : 0 ≤ n ∧ n ≤ 100) (hs : 0 < share ∧ share < 1000) (w : DS) :
    Ho ((rngL 0 n).bind fun u20 => filtW (fun (x : Int) (w2 : DS) => (m__law_draw share w2).bind fun u19 => some (decide (u19.1 = 0), u19.2)) (fun (x : Int) (w2 : DS) => some (x, w2)) u20 w) (fun r => r.1.Pairwise (· < ·) ∧ ∀ y ∈ r.1, 0 ≤ y ∧ y < n) := by
  rw [rngL_eq (by omega) (by omega) (by omega), Option.bind_some]
  refine (ho_filtWs (f := fun x : Int => x) (Iw := fun _ => True) True.intro fun x _ w _ => ?_).mono fun r hr => ?_
  · exact (draw_ho hs.1 (by omega)).bind fun v _ => ho_some True.intro
  · obtain ⟨⟨ys, e, sub⟩, _⟩ := hr
    rw [List.map_id'] at e
    rw [e]
    exact ⟨(rng_lt 0 n).sublist sub, fun y hy => mem_rng.mp (sub.subset hy)⟩
def sym (n : Nat) (S A : List Int) : List Int := (rng 0 n).filter fun x => !decide (decide (x ∈ S) = decide (x ∈ A))
theorem sym_asc (n : Nat) (S A : List Int) : Asc n (sym n S A) := ⟨(rng_lt _ _).filter _, fun x hx => mem_rng.mp (List.mem_filter.mp hx).1⟩
theorem sym_ho {n : Nat} (hn : n ≤ 100) (S A : List Int) : ((rngL 0 (n : Int)).bind fun u24 => filtO (fun (x3 : Int) => some (!decide ((decide (x3 ∈ S)) = (decide (x3 ∈ A))))) (fun (x3 : Int) => some (x3)) u24).bind (fun u => tupO u) = some (sym n S A) := by
  rw [rngL_eq (by omega) (by omega) (by omega), Option.bind_some, filtO_id (p := fun x => !decide (decide (x ∈ S) = decide (x ∈ A))) fun _ _ => rfl, Option.bind_some]
  have := List.length_filter_le (fun x => !decide (decide (x ∈ S) = decide (x ∈ A))) (rng 0 (n : Int))
  rw [rng_len] at this
  exact tupO_eq (by omega)
theorem sym_mask {n : Nat} {S A : List Int} (hS : Asc n S) (hA : Asc n A) : mk (sym n S A) = mk S ^^^ mk A := by
  have hD := sym_asc n S A
  refine mask_ext hD.mask.1 (Nat.xor_lt_two_pow hS.mask.1 hA.mask.1) fun i hi => ?_
  have b1 := (mk_bit hS.1 hS.2).2.2 i hi
  have b2 := (mk_bit hA.1 hA.2).2.2 i hi
  have b3 := (mk_bit hD.1 hD.2).2.2 i hi
  have e : (i : Int) ∈ sym n S A ↔ ¬ (decide ((i : Int) ∈ S) = decide ((i : Int) ∈ A)) := by
    unfold sym
    rw [List.mem_filter, mem_rng]
    constructor
    · rintro ⟨_, h⟩; simpa using h
    · intro h; exact ⟨⟨by omega, by omega⟩, by simpa using h⟩
  rw [Nat.testBit_xor, Bool.eq_iff_iff, b3, e]
  have e1 : (mk S).testBit i = decide ((i : Int) ∈ S) := by rw [Bool.eq_iff_iff, b1, decide_eq_true_eq]
  have e2 : (mk A).testBit i = decide ((i : Int) ∈ A) := by rw [Bool.eq_iff_iff, b2, decide_eq_true_eq]
  rw [e1, e2]
  cases decide ((i : Int) ∈ S) <;> cases decide ((i : Int) ∈ A) <;> decide
theorem sym_px {n : Nat} {ties : List (Int × Int)} {S A : List Int} (hS : Asc n S) (hA : Asc n A) : px (row ties) (sym n S A) = px (row ties) S ^^^ px (row ties) A := by
  rw [asc_px (sym_asc n S A), sym_mask hS hA, pic_xor, ← asc_px hS, ← asc_px hA]
theorem sym_bl {n a b : Nat} (ha : a < 2 ^ n) (hb : b < 2 ^ n) : sym n (bl n a) (bl n b) = bl n (a ^^^ b) := by
  have h := sym_mask (asc_bl n a) (asc_bl n b)
  rw [mk_bl_lt ha, mk_bl_lt hb] at h
  rw [← h, (sym_asc n _ _).mask.2]
theorem asc_len {n : Nat} {S : List Int} (h : Asc n S) : S.length ≤ n := by
  have := nodup_rng_len (lt_nodup h.1) h.2
  omega
theorem sort_sort (K : List (List Int)) : (K.mergeSort leT).mergeSort leT = K.mergeSort leT := sortT_perm (List.mergeSort_perm K leT)
open Classical in
/-- the part that looks at all idle sets -/
theorem idle_part {N : Nat} {ties : List (Int × Int)} (W : Wb N ties) {P : List Int} (hP : Asc N P) (hm : ∃ S, Makes N ties P S) (w : DS) {d : Int} {k : Nat} (hd : d = k) (hk : k ≤ N) {K : List (List Int)} (hK : Idle N ties K) (hl : K.length = 2 ^ k) (hf : N < 1000000) :
    Ho (if (decide (d < 7)) then (m_idle_sets 1000000 N ties).bind fun idle => (((shlO 1 d).bind fun u31 => some (!decide ((idle.length : Int) = u31))).bind fun u36 => if u36 then some true else ((tsetO idle).bind fun u32 => some (!decide (idle = u32))).bind fun u35 => if u35 then some true else (filtO (fun (row : List Int) => (m_picture_of 1000000 N ties row).bind fun u33 => some (!decide (u33 = []))) (fun (row : List Int) => some (row)) idle).bind fun u34 => some (!decide (u34 = ([] : List (List Int))))).bind fun u52 => if u52 then some (Fx.ex false) else ((filtO (fun (row1 : List Int) => ((((filtO (fun (x5 : Int) => some (decide (x5 ∈ P))) (fun (x5 : Int) => some (x5)) row1).map fun u37 => (u37.length : Int)).bind fun i => some i).map fun u38 => u38 % 2).bind fun u39 => some (decide (u39 = 1))) (fun (row1 : List Int) => some (row1)) idle).bind fun u40 => some (!decide (u40 = ([] : List (List Int))))).bind fun u51 => if u51 then some (Fx.ex false) else ((rngL 0 N).bind fun u42 => filtW (fun (x6 : Int) (w4 : DS) => (m__law_draw 2 w4).bind fun u41 => some (decide (u41.1 = 0), u41.2)) (fun (x6 : Int) (w4 : DS) => some (x6, w4)) u42 w).bind fun drawn => ((filtO (fun (row2 : List Int) => ((((filtO (fun (x7 : Int) => some (decide (x7 ∈ drawn.1))) (fun (x7 : Int) => some (x7)) row2).map fun u43 => (u43.length : Int)).bind fun i => some i).map fun u44 => u44 % 2).bind fun u45 => some (decide (u45 = 1))) (fun (row2 : List Int) => some (row2)) idle).bind fun u46 => some (decide (u46 = ([] : List (List Int))))).bind fun right => ((((m_can_make 1000000 N ties drawn.1).map fun u47 => dB u47).bind fun u48 => m__law_eq u48 (dB right)).map fun u49 => !u49).bind fun u50 => if u50 then some ((Fx.ex false)) else some ((Fx.go drawn.2)) else some ((Fx.go w : Fx DS Bool))) (fun r => ∃ w', r = Fx.go w') := by
  have hN := W.n1
  subst hd
  by_cases h7 : (k : Int) < 7
  rotate_left
  · rw [decide_eq_false h7, if_neg (by simp)]
    exact ho_some ⟨_, rfl⟩
  rw [decide_eq_true h7, if_pos rfl]
  have h64 : K.length ≤ 64 := by
    rw [hl]
    exact Nat.pow_le_pow_right (n := 2) (by decide) (show k ≤ 6 by omega)
  obtain ⟨I, eI, K2, hK2, hI⟩ := idle_ho W hf (fun K' hK' => by rw [(hK'.perm hK).length_eq]; have : (2 : Nat) ^ 20 = 1048576 := rfl; omega)
  have hpm : I.Perm K := by rw [hI]; exact (List.mergeSort_perm _ _).trans (hK2.perm hK)
  have hIi : Idle N ties I := ⟨hpm.nodup_iff.mpr hK.1, fun S => by rw [hpm.mem_iff]; exact hK.2 S⟩
  have hIl : I.length = 2 ^ k := by rw [hpm.length_eq, hl]
  have hset : tsetO I = some I := by
    unfold tsetO
    rw [if_pos ⟨by rw [hpm.length_eq]; exact h64, hIi.1⟩, hI, sort_sort]
  have e1 : filtO (fun (row : List Int) => (m_picture_of 1000000 N ties row).bind fun u33 => some (!decide (u33 = []))) (fun (row : List Int) => some (row)) I = some [] := by
    rw [filtO_id (p := fun _ => false) fun T hT => ?_]
    · simp
    · obtain ⟨a, b⟩ := (hIi.2 T).mp hT
      rw [picture_eq W hf a.2, b, bl_zero]
      rfl
  have odds : ∀ Q : List Int, filtO (fun (row1 : List Int) => ((((filtO (fun (x5 : Int) => some (decide (x5 ∈ Q))) (fun (x5 : Int) => some (x5)) row1).map fun u37 => (u37.length : Int)).bind fun i => some i).map fun u38 => u38 % 2).bind fun u39 => some (decide (u39 = 1))) (fun (row1 : List Int) => some (row1)) I = some (I.filter fun one => decide (((one.filter fun x => decide (x ∈ Q)).length : Int) % 2 = 1)) := fun Q => by
    refine filtO_id fun one _ => ?_
    rw [filtO_id (p := fun x => decide (x ∈ Q)) fun _ _ => rfl]
    rfl
  have e2 : decide ((I.length : Int) = ((2 ^ k : Nat) : Int)) = true := decide_eq_true (by rw [hIl])
  rw [eI, Option.bind_some, Lmp.shl_eq (by omega), Option.bind_some, Int.toNat_natCast, e2, Option.bind_some, Bool.not_true, if_neg (by simp), hset, Option.bind_some, decide_eq_true rfl, Option.bind_some, Bool.not_true, if_neg (by simp), e1, Option.bind_some, decide_eq_true rfl, Bool.not_true, Option.bind_some, if_neg (by simp)]
  rw [odds P, Option.bind_some, (makes_even W hP hIi).mp hm, decide_eq_true rfl, Bool.not_true, Option.bind_some, if_neg (by simp)]
  refine (drawn_ho (by omega) (by decide) w).bind fun r hr => ?_
  obtain ⟨Q, w2⟩ := r
  have hQ : Asc N Q := hr
  have e3 : decide ((I.filter fun one => decide (((one.filter fun x => decide (x ∈ Q)).length : Int) % 2 = 1)) = ([] : List (List Int))) = decide (∃ S, Makes N ties Q S) := decide_eq_decide.mpr (makes_even W hQ hIi).symm
  dsimp only
  rw [odds Q, Option.bind_some, e3, Option.bind_some, can_eq W hf hQ, Option.map_some, Option.bind_some, eq_boolB, decide_eq_true rfl, Option.map_some, Option.bind_some, Bool.not_true, if_neg (by simp)]
  exact ho_some ⟨_, rfl⟩
end Prog
namespace Prog
open PySem L2 Mir Lmp
open Classical in
theorem law_true : ∀ ns : List Int, ns.length ≤ 63 → (∀ z ∈ ns, Builtin.Int.intBits z ≤ 1048576) → m_law 1000000 ns = some true := by
  intro ns hl _
  refine Ho.eq ?_
  unfold m_law
  refine (state_ho hl).bind fun w1 _ => ?_
  refine Ho.bind (P := fun r : Int × DS => 1 ≤ r.1 ∧ r.1 ≤ 60) ?_ fun r hn => ?_
  · refine (draw_ho (by omega) (by omega)).bind fun v hv => ho_some ?_
    dsimp only
    omega
  obtain ⟨n, w2⟩ := r
  have hn : 1 ≤ n ∧ n ≤ 60 := hn
  refine Ho.bind (P := fun t : List (Int × Int) × DS => Web n t.1 ∧ t.1.Nodup) ?_ fun t ht => ?_
  · refine Ho.bind (P := fun q : (Int × Int × Unit) × DS => q.1.1 = n ∧ q.1.2.1 ∈ [(2 : Int), 5, 12]) ?_ fun q hq => ?_
    · refine Ho.bind (P := fun q : (Int × Unit) × DS => q.1.1 ∈ [(2 : Int), 5, 12]) ?_ fun q hq => ho_some ⟨rfl, hq⟩
      exact (pick_ho (by simp) (by simp)).bind fun v hv => ho_some hv
    · rw [hq.1]
      have h2 := hq.2
      simp only [List.mem_cons, List.not_mem_nil, or_false] at h2
      exact web_ho (by omega) (by omega)
  obtain ⟨ties, w3⟩ := t
  obtain ⟨hw, hd⟩ := ht
  have hw : Web n ties := hw
  have hd : ties.Nodup := hd
  obtain ⟨N, rfl⟩ : ∃ N : Nat, n = N := ⟨n.toNat, by omega⟩
  have W : Wb N ties := ⟨hw, hd, by omega⟩
  have hf : N < 1000000 := by omega
  have hN : N ≤ 100 := by omega
  have hr : Asc N (rng 0 N) := ⟨rng_lt _ _, fun x hx => mem_rng.mp hx⟩
  clear hw hd hn
  dsimp only
  have ek : (rngL 0 (N : Int)) = some (rng 0 N) := rngL_eq (by omega) (by omega) (by omega)
  have ea := makes_all W
  obtain ⟨oa, eoa, hoa⟩ := any_ho W hf hr
  obtain ⟨T, rfl, hT⟩ : ∃ T, oa = some T ∧ Makes N ties (rng 0 N) T := by
    rcases hoa with ⟨T, rfl, h⟩ | ⟨_, h⟩
    · exact ⟨T, rfl, h⟩
    · obtain ⟨S, hS⟩ := ea
      exact absurd hS (h S)
  have e1 : bl N (px (row ties) T) = rng 0 N := hT.2
  rw [ek, Option.bind_some, eoa, Option.bind_some, Option.isNone_some, if_neg (by simp), Option.bind_some, picture_eq W hf hT.1.2, Option.bind_some, e1, decide_eq_true rfl, Option.bind_some, Bool.not_true, if_neg (by simp), can_eq W hf hr, decide_eq_true ea, Option.map_some, Option.bind_some, Bool.not_true, if_neg (by simp)]
  rw [← ek]
  refine (drawn_ho (by omega) (by decide) w3).bind fun r hS => ?_
  obtain ⟨S, w4⟩ := r
  have hS : Asc N S := hS
  dsimp only
  have hP : Asc N (bl N (px (row ties) S)) := asc_bl N _
  have hm : ∃ A, Makes N ties (bl N (px (row ties) S)) A := ⟨S, hS, rfl⟩
  obtain ⟨ob, eob, hob⟩ := any_ho W hf hP
  obtain ⟨A, rfl, hA⟩ : ∃ A, ob = some A ∧ Makes N ties (bl N (px (row ties) S)) A := by
    rcases hob with ⟨A, rfl, h⟩ | ⟨_, h⟩
    · exact ⟨A, rfl, h⟩
    · obtain ⟨B, hB⟩ := hm
      exact absurd hB (h B)
  have e2 : bl N (px (row ties) A) = bl N (px (row ties) S) := hA.2
  have e3 : px (row ties) A = px (row ties) S := bl_inj (px_lt W hA.1.2) (px_lt W hS.2) e2
  rw [picture_eq W hf hS.2, Option.bind_some, eob, Option.bind_some, can_eq W hf hP, decide_eq_true hm, Option.map_some, Option.bind_some, Bool.not_true, if_neg (by simp), Option.isNone_some, if_neg (by simp), Option.bind_some, picture_eq W hf hA.1.2, Option.bind_some, e2, decide_eq_true rfl, Option.bind_some, Bool.not_true, if_neg (by simp)]
  have eboth : ((rngL 0 (N : Int)).bind fun u18 => filtO (fun (x1 : Int) => ((some A).bind fun u16 => some (decide (x1 ∈ u16))).bind fun u17 => some (!decide ((decide (x1 ∈ S)) = u17))) (fun (x1 : Int) => some (x1)) u18).bind (fun u => tupO u) = some (sym N S A) := sym_ho hN S A
  rw [eboth, Option.bind_some, picture_eq W hf (sym_asc N S A).2, sym_px hS hA.1, e3, Nat.xor_self, bl_zero, Option.bind_some, decide_eq_true rfl, Bool.not_true, Option.bind_some, if_neg (by simp)]
  refine (drawn_ho (by omega) (by decide) w4).bind fun r hO => ?_
  obtain ⟨O, w5⟩ := r
  have hO : Asc N O := hO
  dsimp only
  have ejoint : ((rngL 0 (N : Int)).bind fun u24 => filtO (fun (x3 : Int) => some (!decide ((decide (x3 ∈ S)) = (decide (x3 ∈ O))))) (fun (x3 : Int) => some (x3)) u24).bind (fun u => tupO u) = some (sym N S O) := sym_ho hN S O
  rw [ejoint, Option.bind_some, picture_eq W hf hO.2, Option.bind_some, Option.bind_some]
  rw [picture_eq W hf (sym_asc N S O).2, sym_px hS hO, Option.bind_some]
  dsimp only
  have ehave : ((rngL 0 (N : Int)).bind fun u27 => filtO (fun (x4 : Int) => some (!decide ((decide (x4 ∈ bl N (px (row ties) S))) = (decide (x4 ∈ bl N (px (row ties) O)))))) (fun (x4 : Int) => some (x4)) u27).bind (fun u28 => tupO u28) = some (bl N (px (row ties) S ^^^ px (row ties) O)) := by
    rw [sym_ho hN, sym_bl (px_lt W hS.2) (px_lt W hO.2)]
  rw [ehave, Option.bind_some, Option.bind_some, decide_eq_true rfl, Bool.not_true, Option.bind_some, if_neg (by simp)]
  obtain ⟨d, ed, k, hdk, hk, K, hK, hKl⟩ := slack_ho W hf
  rw [ed, Option.bind_some]
  refine (idle_part W hP hm w5 hdk hk hK hKl hf).bind fun r hr' => ?_
  obtain ⟨w6, rfl⟩ := hr'
  show Ho (((m__law_draw 60 w6).bind fun u54 => some (1 + u54.1, u54.2)).bind _) _
  refine Ho.bind (P := fun r : Int × DS => 1 ≤ r.1 ∧ r.1 ≤ 60) ?_ fun r hn => ?_
  · refine (draw_ho (by omega) (by omega)).bind fun v hv => ho_some ?_
    dsimp only
    omega
  obtain ⟨n, w7⟩ := r
  have hn : 1 ≤ n ∧ n ≤ 60 := hn
  obtain ⟨M, rfl⟩ : ∃ M : Nat, n = M := ⟨n.toNat, by omega⟩
  dsimp only
  refine Ho.bind (P := fun b => b = false) ?_ fun b hb => ?_
  · rw [path_eq (by omega), Option.bind_some, path_slack (by omega) (by omega) (by omega), Option.map_some, Option.bind_some, Option.bind_some, Option.map_some, Option.bind_some]
    have e4 : (if decide ((M : Int) % 3 = 2) then (1 : Int) else 0) = if M % 3 = 2 then 1 else 0 := by
      by_cases q : M % 3 = 2
      · rw [decide_eq_true (by omega), if_pos rfl, if_pos q]
      · rw [decide_eq_false (by omega), if_neg (by simp), if_neg q]
    rw [e4, eq_intB, decide_eq_true rfl, Option.map_some, Option.bind_some, Bool.not_true, if_neg (by simp)]
    by_cases h2 : (M : Int) > 2
    · rw [decide_eq_true h2, if_pos rfl, ring_eq (by omega), Option.bind_some, ring_slack (by omega) (by omega), Option.map_some, Option.bind_some]
      have e5 : (if decide ((M : Int) % 3 = 0) then dI 2 else dI 0) = dI (if M % 3 = 0 then 2 else 0) := by
        by_cases q : M % 3 = 0
        · rw [decide_eq_true (by omega), if_pos rfl, if_pos q]
        · rw [decide_eq_false (by omega), if_neg (by simp), if_neg q]
      rw [e5, eq_intB, decide_eq_true rfl, Option.map_some]
      exact ho_some rfl
    · rw [decide_eq_false h2, if_neg (by simp)]
      exact ho_some rfl
  subst hb
  rw [if_neg (by simp)]
  refine Ho.bind (P := fun r : Int × DS => 1 ≤ r.1 ∧ r.1 ≤ 12) ?_ fun r hn2 => ?_
  · refine (draw_ho (by omega) (by omega)).bind fun v hv => ho_some ?_
    dsimp only
    omega
  obtain ⟨m, w8⟩ := r
  have hn2 : 1 ≤ m ∧ m ≤ 12 := hn2
  obtain ⟨m, rfl⟩ : ∃ m' : Nat, m = m' := ⟨m.toNat, by omega⟩
  dsimp only
  rw [whole_eq (by omega), Option.bind_some, whole_slack (by omega) (by omega) (by omega), Option.map_some, Option.bind_some, eq_intB, decide_eq_true rfl, Option.map_some, Option.bind_some, Bool.not_true, if_neg (by simp)]
  refine Ho.bind (P := fun r : Int × DS => 1 ≤ r.1 ∧ r.1 ≤ 7) ?_ fun r hn3 => ?_
  · refine (draw_ho (by omega) (by omega)).bind fun v hv => ho_some ?_
    dsimp only
    omega
  obtain ⟨s, w9⟩ := r
  have hn3 : 1 ≤ s ∧ s ≤ 7 := hn3
  obtain ⟨s, rfl⟩ : ∃ s' : Nat, s = s' := ⟨s.toNat, by omega⟩
  dsimp only
  have h7 : 1 ≤ s ∧ s ≤ 7 := by omega
  have hss : s * s < 1000000 := by
    have := Nat.mul_le_mul h7.2 h7.2
    omega
  obtain ⟨d2, k1, k2⟩ := board_all h7 hss
  have e6 : (s : Int) * (s : Int) = ((s * s : Nat) : Int) := (Int.natCast_mul s s).symm
  have e7 : (boardT (s : Int) s).mergeSort leP = brd s := rfl
  rw [mulO_eq (by omega), Option.bind_some, board_eq (by omega) (by omega), Option.bind_some, e6, e7, k1, Option.map_some, Option.bind_some, k2, Option.map_some, Option.bind_some, eq_intB, decide_eq_true rfl]
  exact ho_some rfl
end Prog
namespace Prog
open PySem L2 Mir
theorem all_mk (hlaw : ∀ ns : List Int, ns.length ≤ 63 → (∀ z ∈ ns, Builtin.Int.intBits z ≤ 1048576) → m_law 1000000 ns = some true) {l : PySem.W.OpenLaw} {w : World} {K : PySem.W.Frag} {h : Heap} {mg : Str → Option Value} {fa f0 f1 f2 f3 f4 f5 f6 f7 f8 f9 f10 f11 f12 f13 f14 f15 f16 f17 f18 f19 f20 f21 f22 f23 : Addr} (X : K.In h) (G : h.Ns mainGlobals mg) (hfa : mg "law" = some (.ref fa))
    {od0 an0 od1 an1 od2 an2 od3 an3 od4 an4 od5 an5 od6 an6 od7 an7 od8 an8 od9 an9 od10 an10 od11 an11 od12 an12 od13 an13 od14 an14 od15 an15 od16 an16 od17 an17 od18 an18 od19 an19 od20 an20 od21 an21 od22 an22 od23 an23 : Option Addr} {sl0 sl1 sl2 sl3 sl4 sl5 sl6 sl7 sl8 sl9 sl10 sl11 sl12 sl13 sl14 sl15 sl16 sl17 sl18 sl19 sl20 sl21 sl22 sl23 : Array (Option Value)} {oc0 kV0 dc0 pm0 cd0 ct0 oc1 kV1 dc1 pm1 cd1 ct1 oc2 kV2 dc2 pm2 cd2 ct2 oc3 kV3 dc3 pm3 cd3 ct3 oc4 kV4 dc4 pm4 cd4 ct4 oc5 kV5 dc5 pm5 cd5 ct5 oc6 kV6 dc6 pm6 cd6 ct6 oc7 kV7 dc7 pm7 cd7 ct7 oc8 kV8 dc8 pm8 cd8 ct8 oc9 kV9 dc9 pm9 cd9 ct9 oc10 kV10 dc10 pm10 cd10 ct10 oc11 kV11 dc11 pm11 cd11 ct11 oc12 kV12 dc12 pm12 cd12 ct12 oc13 kV13 dc13 pm13 cd13 ct13 oc14 kV14 dc14 pm14 cd14 ct14 oc15 kV15 dc15 pm15 cd15 ct15 oc16 kV16 dc16 pm16 cd16 ct16 oc17 kV17 dc17 pm17 cd17 ct17 oc18 kV18 dc18 pm18 cd18 ct18 oc19 kV19 dc19 pm19 cd19 ct19 oc20 kV20 dc20 pm20 cd20 ct20 oc21 kV21 dc21 pm21 cd21 ct21 oc22 kV22 dc22 pm22 cd22 ct22 oc23 kV23 dc23 pm23 cd23 ct23 : Value}
    (a0 : PySem.W.nsIn K mainGlobals "beside" = some (some (.ref f0))) (l0 : K.lookup f0 = some ⟨oc0, od0, .func (PySem.W.fnOf "beside" "beside" (defArgs s_beside) (defBody s_beside) (defScope s_beside) .none kV0 dc0 pm0 an0 cd0 ct0), sl0⟩) (c0 : PySem.W.codeIn K cd0 "beside" = true) (k0 : PySem.W.keepIn K (.ref f0) = true)
    (a1 : PySem.W.nsIn K mainGlobals "ward" = some (some (.ref f1))) (l1 : K.lookup f1 = some ⟨oc1, od1, .func (PySem.W.fnOf "ward" "ward" (defArgs s_ward) (defBody s_ward) (defScope s_ward) .none kV1 dc1 pm1 an1 cd1 ct1), sl1⟩) (c1 : PySem.W.codeIn K cd1 "ward" = true) (k1 : PySem.W.keepIn K (.ref f1) = true)
    (a2 : PySem.W.nsIn K mainGlobals "figure_of" = some (some (.ref f2))) (l2 : K.lookup f2 = some ⟨oc2, od2, .func (PySem.W.fnOf "figure_of" "figure_of" (defArgs s_figure_of) (defBody s_figure_of) (defScope s_figure_of) .none kV2 dc2 pm2 an2 cd2 ct2), sl2⟩) (c2 : PySem.W.codeIn K cd2 "figure_of" = true) (k2 : PySem.W.keepIn K (.ref f2) = true)
    (a3 : PySem.W.nsIn K mainGlobals "set_of" = some (some (.ref f3))) (l3 : K.lookup f3 = some ⟨oc3, od3, .func (PySem.W.fnOf "set_of" "set_of" (defArgs s_set_of) (defBody s_set_of) (defScope s_set_of) .none kV3 dc3 pm3 an3 cd3 ct3), sl3⟩) (c3 : PySem.W.codeIn K cd3 "set_of" = true) (k3 : PySem.W.keepIn K (.ref f3) = true)
    (a4 : PySem.W.nsIn K mainGlobals "height" = some (some (.ref f4))) (l4 : K.lookup f4 = some ⟨oc4, od4, .func (PySem.W.fnOf "height" "height" (defArgs s_height) (defBody s_height) (defScope s_height) .none kV4 dc4 pm4 an4 cd4 ct4), sl4⟩) (c4 : PySem.W.codeIn K cd4 "height" = true) (k4 : PySem.W.keepIn K (.ref f4) = true)
    (a5 : PySem.W.nsIn K mainGlobals "made_by" = some (some (.ref f5))) (l5 : K.lookup f5 = some ⟨oc5, od5, .func (PySem.W.fnOf "made_by" "made_by" (defArgs s_made_by) (defBody s_made_by) (defScope s_made_by) .none kV5 dc5 pm5 an5 cd5 ct5), sl5⟩) (c5 : PySem.W.codeIn K cd5 "made_by" = true) (k5 : PySem.W.keepIn K (.ref f5) = true)
    (a6 : PySem.W.nsIn K mainGlobals "picture_of" = some (some (.ref f6))) (l6 : K.lookup f6 = some ⟨oc6, od6, .func (PySem.W.fnOf "picture_of" "picture_of" (defArgs s_picture_of) (defBody s_picture_of) (defScope s_picture_of) .none kV6 dc6 pm6 an6 cd6 ct6), sl6⟩) (c6 : PySem.W.codeIn K cd6 "picture_of" = true) (k6 : PySem.W.keepIn K (.ref f6) = true)
    (a7 : PySem.W.nsIn K mainGlobals "settled" = some (some (.ref f7))) (l7 : K.lookup f7 = some ⟨oc7, od7, .func (PySem.W.fnOf "settled" "settled" (defArgs s_settled) (defBody s_settled) (defScope s_settled) .none kV7 dc7 pm7 an7 cd7 ct7), sl7⟩) (c7 : PySem.W.codeIn K cd7 "settled" = true) (k7 : PySem.W.keepIn K (.ref f7) = true)
    (a8 : PySem.W.nsIn K mainGlobals "presses_by" = some (some (.ref f8))) (l8 : K.lookup f8 = some ⟨oc8, od8, .func (PySem.W.fnOf "presses_by" "presses_by" (defArgs s_presses_by) (defBody s_presses_by) (defScope s_presses_by) .none kV8 dc8 pm8 an8 cd8 ct8), sl8⟩) (c8 : PySem.W.codeIn K cd8 "presses_by" = true) (k8 : PySem.W.keepIn K (.ref f8) = true)
    (a9 : PySem.W.nsIn K mainGlobals "can_make" = some (some (.ref f9))) (l9 : K.lookup f9 = some ⟨oc9, od9, .func (PySem.W.fnOf "can_make" "can_make" (defArgs s_can_make) (defBody s_can_make) (defScope s_can_make) .none kV9 dc9 pm9 an9 cd9 ct9), sl9⟩) (c9 : PySem.W.codeIn K cd9 "can_make" = true) (k9 : PySem.W.keepIn K (.ref f9) = true)
    (a10 : PySem.W.nsIn K mainGlobals "any_presses" = some (some (.ref f10))) (l10 : K.lookup f10 = some ⟨oc10, od10, .func (PySem.W.fnOf "any_presses" "any_presses" (defArgs s_any_presses) (defBody s_any_presses) (defScope s_any_presses) .none kV10 dc10 pm10 an10 cd10 ct10), sl10⟩) (c10 : PySem.W.codeIn K cd10 "any_presses" = true) (k10 : PySem.W.keepIn K (.ref f10) = true)
    (a11 : PySem.W.nsIn K mainGlobals "slack" = some (some (.ref f11))) (l11 : K.lookup f11 = some ⟨oc11, od11, .func (PySem.W.fnOf "slack" "slack" (defArgs s_slack) (defBody s_slack) (defScope s_slack) .none kV11 dc11 pm11 an11 cd11 ct11), sl11⟩) (c11 : PySem.W.codeIn K cd11 "slack" = true) (k11 : PySem.W.keepIn K (.ref f11) = true)
    (a12 : PySem.W.nsIn K mainGlobals "sums_of" = some (some (.ref f12))) (l12 : K.lookup f12 = some ⟨oc12, od12, .func (PySem.W.fnOf "sums_of" "sums_of" (defArgs s_sums_of) (defBody s_sums_of) (defScope s_sums_of) .none kV12 dc12 pm12 an12 cd12 ct12), sl12⟩) (c12 : PySem.W.codeIn K cd12 "sums_of" = true) (k12 : PySem.W.keepIn K (.ref f12) = true)
    (a13 : PySem.W.nsIn K mainGlobals "idle_sets" = some (some (.ref f13))) (l13 : K.lookup f13 = some ⟨oc13, od13, .func (PySem.W.fnOf "idle_sets" "idle_sets" (defArgs s_idle_sets) (defBody s_idle_sets) (defScope s_idle_sets) .none kV13 dc13 pm13 an13 cd13 ct13), sl13⟩) (c13 : PySem.W.codeIn K cd13 "idle_sets" = true) (k13 : PySem.W.keepIn K (.ref f13) = true)
    (a14 : PySem.W.nsIn K mainGlobals "_law_state" = some (some (.ref f14))) (l14 : K.lookup f14 = some ⟨oc14, od14, .func (PySem.W.fnOf "_law_state" "_law_state" (defArgs s__law_state) (defBody s__law_state) (defScope s__law_state) .none kV14 dc14 pm14 an14 cd14 ct14), sl14⟩) (c14 : PySem.W.codeIn K cd14 "_law_state" = true) (k14 : PySem.W.keepIn K (.ref f14) = true)
    (a15 : PySem.W.nsIn K mainGlobals "_law_draw" = some (some (.ref f15))) (l15 : K.lookup f15 = some ⟨oc15, od15, .func (PySem.W.fnOf "_law_draw" "_law_draw" (defArgs s__law_draw) (defBody s__law_draw) (defScope s__law_draw) .none kV15 dc15 pm15 an15 cd15 ct15), sl15⟩) (c15 : PySem.W.codeIn K cd15 "_law_draw" = true) (k15 : PySem.W.keepIn K (.ref f15) = true)
    (a16 : PySem.W.nsIn K mainGlobals "_law_pick" = some (some (.ref f16))) (l16 : K.lookup f16 = some ⟨oc16, od16, .func (PySem.W.fnOf "_law_pick" "_law_pick" (defArgs s__law_pick) (defBody s__law_pick) (defScope s__law_pick) .none kV16 dc16 pm16 an16 cd16 ct16), sl16⟩) (c16 : PySem.W.codeIn K cd16 "_law_pick" = true) (k16 : PySem.W.keepIn K (.ref f16) = true)
    (a17 : PySem.W.nsIn K mainGlobals "_law_eq" = some (some (.ref f17))) (l17 : K.lookup f17 = some ⟨oc17, od17, .func (PySem.W.fnOf "_law_eq" "_law_eq" (defArgs s__law_eq) (defBody s__law_eq) (defScope s__law_eq) .none kV17 dc17 pm17 an17 cd17 ct17), sl17⟩) (c17 : PySem.W.codeIn K cd17 "_law_eq" = true) (k17 : PySem.W.keepIn K (.ref f17) = true)
    (a18 : PySem.W.nsIn K mainGlobals "_law_web" = some (some (.ref f18))) (l18 : K.lookup f18 = some ⟨oc18, od18, .func (PySem.W.fnOf "_law_web" "_law_web" (defArgs s__law_web) (defBody s__law_web) (defScope s__law_web) .none kV18 dc18 pm18 an18 cd18 ct18), sl18⟩) (c18 : PySem.W.codeIn K cd18 "_law_web" = true) (k18 : PySem.W.keepIn K (.ref f18) = true)
    (a19 : PySem.W.nsIn K mainGlobals "_law_path" = some (some (.ref f19))) (l19 : K.lookup f19 = some ⟨oc19, od19, .func (PySem.W.fnOf "_law_path" "_law_path" (defArgs s__law_path) (defBody s__law_path) (defScope s__law_path) .none kV19 dc19 pm19 an19 cd19 ct19), sl19⟩) (c19 : PySem.W.codeIn K cd19 "_law_path" = true) (k19 : PySem.W.keepIn K (.ref f19) = true)
    (a20 : PySem.W.nsIn K mainGlobals "_law_ring" = some (some (.ref f20))) (l20 : K.lookup f20 = some ⟨oc20, od20, .func (PySem.W.fnOf "_law_ring" "_law_ring" (defArgs s__law_ring) (defBody s__law_ring) (defScope s__law_ring) .none kV20 dc20 pm20 an20 cd20 ct20), sl20⟩) (c20 : PySem.W.codeIn K cd20 "_law_ring" = true) (k20 : PySem.W.keepIn K (.ref f20) = true)
    (a21 : PySem.W.nsIn K mainGlobals "_law_whole" = some (some (.ref f21))) (l21 : K.lookup f21 = some ⟨oc21, od21, .func (PySem.W.fnOf "_law_whole" "_law_whole" (defArgs s__law_whole) (defBody s__law_whole) (defScope s__law_whole) .none kV21 dc21 pm21 an21 cd21 ct21), sl21⟩) (c21 : PySem.W.codeIn K cd21 "_law_whole" = true) (k21 : PySem.W.keepIn K (.ref f21) = true)
    (a22 : PySem.W.nsIn K mainGlobals "_law_board" = some (some (.ref f22))) (l22 : K.lookup f22 = some ⟨oc22, od22, .func (PySem.W.fnOf "_law_board" "_law_board" (defArgs s__law_board) (defBody s__law_board) (defScope s__law_board) .none kV22 dc22 pm22 an22 cd22 ct22), sl22⟩) (c22 : PySem.W.codeIn K cd22 "_law_board" = true) (k22 : PySem.W.keepIn K (.ref f22) = true)
    (a23 : PySem.W.nsIn K mainGlobals "law" = some (some (.ref f23))) (l23 : K.lookup f23 = some ⟨oc23, od23, .func (PySem.W.fnOf "law" "law" (defArgs s_law) (defBody s_law) (defScope s_law) .none kV23 dc23 pm23 an23 cd23 ct23), sl23⟩) (c23 : PySem.W.codeIn K cd23 "law" = true) (k23 : PySem.W.keepIn K (.ref f23) = true)
    (z_abs : PySem.W.nsIn K mainGlobals "abs" = some none) (z_bool : PySem.W.nsIn K mainGlobals "bool" = some none) (z_enumerate : PySem.W.nsIn K mainGlobals "enumerate" = some none) (z_int : PySem.W.nsIn K mainGlobals "int" = some none) (z_isinstance : PySem.W.nsIn K mainGlobals "isinstance" = some none) (z_len : PySem.W.nsIn K mainGlobals "len" = some none) (z_list : PySem.W.nsIn K mainGlobals "list" = some none) (z_range : PySem.W.nsIn K mainGlobals "range" = some none) (z_set : PySem.W.nsIn K mainGlobals "set" = some none) (z_sorted : PySem.W.nsIn K mainGlobals "sorted" = some none) (z_str : PySem.W.nsIn K mainGlobals "str" = some none) (z_sum : PySem.W.nsIn K mainGlobals "sum" = some none) (z_tuple : PySem.W.nsIn K mainGlobals "tuple" = some none) :
    ∃ fd : FuncData, (∀ (s : Shared) (v : Value), BindsTo s fd ⟨[v], []⟩ [("script", v)]) ∧ ∀ base : Heap, K.In base → base.Ns mainGlobals mg → FnOk l.prog w K mg base CX0 9 fa fd ["script"] (spLaw K) := by
  have e := hfa.symm.trans (PySem.W.mg_of X G a23)
  cases e
  have T : Txt mg := ⟨PySem.W.mg_none_of X G z_abs, PySem.W.mg_none_of X G z_bool, PySem.W.mg_none_of X G z_enumerate, PySem.W.mg_none_of X G z_int, PySem.W.mg_none_of X G z_isinstance, PySem.W.mg_none_of X G z_len, PySem.W.mg_none_of X G z_list, PySem.W.mg_none_of X G z_range, PySem.W.mg_none_of X G z_set, PySem.W.mg_none_of X G z_sorted, PySem.W.mg_none_of X G z_str, PySem.W.mg_none_of X G z_sum, PySem.W.mg_none_of X G z_tuple⟩
  have F0 := fun_mk (st := s_beside) l0 c0 k0
  have b0 := F0.binds (ps := ["ties", "place"]) fun _ _ _ _ _ _ us hl => match us, hl with | [_, _], _ => rfl
  have F1 := fun_mk (st := s_ward) l1 c1 k1
  have b1 := F1.binds (ps := ["ties", "place"]) fun _ _ _ _ _ _ us hl => match us, hl with | [_, _], _ => rfl
  have F2 := fun_mk (st := s_figure_of) l2 c2 k2
  have b2 := F2.binds (ps := ["some"]) fun _ _ _ _ _ _ us hl => match us, hl with | [_], _ => rfl
  have F3 := fun_mk (st := s_set_of) l3 c3 k3
  have b3 := F3.binds (ps := ["mask"]) fun _ _ _ _ _ _ us hl => match us, hl with | [_], _ => rfl
  have F4 := fun_mk (st := s_height) l4 c4 k4
  have b4 := F4.binds (ps := ["mask"]) fun _ _ _ _ _ _ us hl => match us, hl with | [_], _ => rfl
  have F5 := fun_mk (st := s_made_by) l5 c5 k5
  have b5 := F5.binds (ps := ["n", "ties"]) fun _ _ _ _ _ _ us hl => match us, hl with | [_, _], _ => rfl
  have F6 := fun_mk (st := s_picture_of) l6 c6 k6
  have b6 := F6.binds (ps := ["n", "ties", "some"]) fun _ _ _ _ _ _ us hl => match us, hl with | [_, _, _], _ => rfl
  have F7 := fun_mk (st := s_settled) l7 c7 k7
  have b7 := F7.binds (ps := ["n", "ties"]) fun _ _ _ _ _ _ us hl => match us, hl with | [_, _], _ => rfl
  have F8 := fun_mk (st := s_presses_by) l8 c8 k8
  have b8 := F8.binds (ps := ["n", "ties", "picture"]) fun _ _ _ _ _ _ us hl => match us, hl with | [_, _, _], _ => rfl
  have F9 := fun_mk (st := s_can_make) l9 c9 k9
  have b9 := F9.binds (ps := ["n", "ties", "picture"]) fun _ _ _ _ _ _ us hl => match us, hl with | [_, _, _], _ => rfl
  have F10 := fun_mk (st := s_any_presses) l10 c10 k10
  have b10 := F10.binds (ps := ["n", "ties", "picture"]) fun _ _ _ _ _ _ us hl => match us, hl with | [_, _, _], _ => rfl
  have F11 := fun_mk (st := s_slack) l11 c11 k11
  have b11 := F11.binds (ps := ["n", "ties"]) fun _ _ _ _ _ _ us hl => match us, hl with | [_, _], _ => rfl
  have F12 := fun_mk (st := s_sums_of) l12 c12 k12
  have b12 := F12.binds (ps := ["rows"]) fun _ _ _ _ _ _ us hl => match us, hl with | [_], _ => rfl
  have F13 := fun_mk (st := s_idle_sets) l13 c13 k13
  have b13 := F13.binds (ps := ["n", "ties"]) fun _ _ _ _ _ _ us hl => match us, hl with | [_, _], _ => rfl
  have F14 := fun_mk (st := s__law_state) l14 c14 k14
  have b14 := F14.binds (ps := ["script"]) fun _ _ _ _ _ _ us hl => match us, hl with | [_], _ => rfl
  have F15 := fun_mk (st := s__law_draw) l15 c15 k15
  have b15 := F15.binds (ps := ["state", "many"]) fun _ _ _ _ _ _ us hl => match us, hl with | [_, _], _ => rfl
  have F16 := fun_mk (st := s__law_pick) l16 c16 k16
  have b16 := F16.binds (ps := ["state", "row"]) fun _ _ _ _ _ _ us hl => match us, hl with | [_, _], _ => rfl
  have F17 := fun_mk (st := s__law_eq) l17 c17 k17
  have b17 := F17.binds (ps := ["told", "due"]) fun _ _ _ _ _ _ us hl => match us, hl with | [_, _], _ => rfl
  have F18 := fun_mk (st := s__law_web) l18 c18 k18
  have b18 := F18.binds (ps := ["state", "n", "share"]) fun _ _ _ _ _ _ us hl => match us, hl with | [_, _, _], _ => rfl
  have F19 := fun_mk (st := s__law_path) l19 c19 k19
  have b19 := F19.binds (ps := ["n"]) fun _ _ _ _ _ _ us hl => match us, hl with | [_], _ => rfl
  have F20 := fun_mk (st := s__law_ring) l20 c20 k20
  have b20 := F20.binds (ps := ["n"]) fun _ _ _ _ _ _ us hl => match us, hl with | [_], _ => rfl
  have F21 := fun_mk (st := s__law_whole) l21 c21 k21
  have b21 := F21.binds (ps := ["n"]) fun _ _ _ _ _ _ us hl => match us, hl with | [_], _ => rfl
  have F22 := fun_mk (st := s__law_board) l22 c22 k22
  have b22 := F22.binds (ps := ["rows", "columns"]) fun _ _ _ _ _ _ us hl => match us, hl with | [_, _], _ => rfl
  have F23 := fun_mk (st := s_law) l23 c23 k23
  refine ⟨PySem.W.fnOf "law" "law" (defArgs s_law) (defBody s_law) (defScope s_law) .none kV23 dc23 pm23 an23 cd23 ct23, fun s v => .of_eq rfl, fun base _ _ => ?_⟩
  have K_beside : Kn_beside l.prog w K mg base := k_beside F0 (PySem.W.mg_of X G a0) b0 T 
  have K_ward : Kn_ward l.prog w K mg base := k_ward F1 (PySem.W.mg_of X G a1) b1 T K_beside
  have K_figure_of : Kn_figure_of l.prog w K mg base := k_figure_of F2 (PySem.W.mg_of X G a2) b2 T 
  have K_figure_of_T : Kn_figure_of_T l.prog w K mg base := k_figure_of_T F2 (PySem.W.mg_of X G a2) b2 T 
  have K_set_of : Kn_set_of l.prog w K mg base 1000000 := k_set_of 1000000 F3 (PySem.W.mg_of X G a3) b3 T 
  have K_height : Kn_height l.prog w K mg base 1000000 := k_height 1000000 F4 (PySem.W.mg_of X G a4) b4 T 
  have K_made_by : Kn_made_by l.prog w K mg base := k_made_by F5 (PySem.W.mg_of X G a5) b5 T K_figure_of K_ward
  have K_picture_of : Kn_picture_of l.prog w K mg base 1000000 := k_picture_of 1000000 F6 (PySem.W.mg_of X G a6) b6 T K_made_by K_set_of
  have K_settled : Kn_settled l.prog w K mg base 1000000 := k_settled 1000000 F7 (PySem.W.mg_of X G a7) b7 T K_height K_made_by
  have K_presses_by : Kn_presses_by l.prog w K mg base 1000000 := k_presses_by 1000000 F8 (PySem.W.mg_of X G a8) b8 T K_figure_of_T K_height K_settled
  have K_can_make : Kn_can_make l.prog w K mg base 1000000 := k_can_make 1000000 F9 (PySem.W.mg_of X G a9) b9 T K_presses_by
  have K_any_presses : Kn_any_presses l.prog w K mg base 1000000 := k_any_presses 1000000 F10 (PySem.W.mg_of X G a10) b10 T K_presses_by K_set_of
  have K_slack : Kn_slack l.prog w K mg base 1000000 := k_slack 1000000 F11 (PySem.W.mg_of X G a11) b11 T K_settled
  have K_sums_of : Kn_sums_of l.prog w K mg base := k_sums_of F12 (PySem.W.mg_of X G a12) b12 T 
  have K_idle_sets : Kn_idle_sets l.prog w K mg base 1000000 := k_idle_sets 1000000 F13 (PySem.W.mg_of X G a13) b13 T K_set_of K_settled K_sums_of
  have K__law_state : Kn__law_state l.prog w K mg base := k__law_state F14 (PySem.W.mg_of X G a14) b14 T 
  have K__law_draw : Kn__law_draw l.prog w K mg base := k__law_draw F15 (PySem.W.mg_of X G a15) b15 T 
  have K__law_pick : ∀ {α : Type} (d : α → PyData), Kn__law_pick l.prog w K mg base d := fun d => k__law_pick F16 (PySem.W.mg_of X G a16) b16 T K__law_draw d
  have K__law_eq : Kn__law_eq l.prog w K mg base := k__law_eq F17 (PySem.W.mg_of X G a17) b17 T 
  have K__law_web : Kn__law_web l.prog w K mg base := k__law_web F18 (PySem.W.mg_of X G a18) b18 T K__law_draw
  have K__law_path : Kn__law_path l.prog w K mg base := k__law_path F19 (PySem.W.mg_of X G a19) b19 T 
  have K__law_ring : Kn__law_ring l.prog w K mg base := k__law_ring F20 (PySem.W.mg_of X G a20) b20 T 
  have K__law_whole : Kn__law_whole l.prog w K mg base := k__law_whole F21 (PySem.W.mg_of X G a21) b21 T 
  have K__law_board : Kn__law_board l.prog w K mg base := k__law_board F22 (PySem.W.mg_of X G a22) b22 T 
  exact law_imp hlaw (k_law 1000000 F23 T K__law_board K__law_draw K__law_eq K__law_path K__law_pick K__law_ring K__law_state K__law_web K__law_whole K_any_presses K_can_make K_idle_sets K_picture_of K_slack)
end Prog
open PySem PySem.W PyProof.Rows in
set_option maxRecDepth 100000 in
set_option maxHeartbeats 0 in
theorem PySem.Challenge.cw_chasedwebs_k31_whole_lamps_of_great_webs_holds : PySem.Challenge.rw_chasedwebs_k31_whole_lamps_of_great_webs.Holds := by
  w_on; o_law; k_head; (case hw => w_witness2)
  k_fill
  refine Mir.walk_law (k := 9) (l := PySem.Challenge.rw_chasedwebs_k31_whole_lamps_of_great_webs) rfl rfl ⟨rfl, by decide, by decide⟩ (fun w h Y => PySem.W.kIn_of Y) ?F
  case F =>
    intro w mg fa h KX G hmg
    refine' Prog.all_mk Prog.law_true KX G hmg ?a0 ?l0 ?c0 ?k0 ?a1 ?l1 ?c1 ?k1 ?a2 ?l2 ?c2 ?k2 ?a3 ?l3 ?c3 ?k3 ?a4 ?l4 ?c4 ?k4 ?a5 ?l5 ?c5 ?k5 ?a6 ?l6 ?c6 ?k6 ?a7 ?l7 ?c7 ?k7 ?a8 ?l8 ?c8 ?k8 ?a9 ?l9 ?c9 ?k9 ?a10 ?l10 ?c10 ?k10 ?a11 ?l11 ?c11 ?k11 ?a12 ?l12 ?c12 ?k12 ?a13 ?l13 ?c13 ?k13 ?a14 ?l14 ?c14 ?k14 ?a15 ?l15 ?c15 ?k15 ?a16 ?l16 ?c16 ?k16 ?a17 ?l17 ?c17 ?k17 ?a18 ?l18 ?c18 ?k18 ?a19 ?l19 ?c19 ?k19 ?a20 ?l20 ?c20 ?k20 ?a21 ?l21 ?c21 ?k21 ?a22 ?l22 ?c22 ?k22 ?a23 ?l23 ?c23 ?k23 ?z_abs ?z_bool ?z_enumerate ?z_int ?z_isinstance ?z_len ?z_list ?z_range ?z_set ?z_sorted ?z_str ?z_sum ?z_tuple
    (case a0 => k_is)
    (case l0 => k_is)
    (case c0 => k_is)
    (case k0 => k_is)
    (case a1 => k_is)
    (case l1 => k_is)
    (case c1 => k_is)
    (case k1 => k_is)
    (case a2 => k_is)
    (case l2 => k_is)
    (case c2 => k_is)
    (case k2 => k_is)
    (case a3 => k_is)
    (case l3 => k_is)
    (case c3 => k_is)
    (case k3 => k_is)
    (case a4 => k_is)
    (case l4 => k_is)
    (case c4 => k_is)
    (case k4 => k_is)
    (case a5 => k_is)
    (case l5 => k_is)
    (case c5 => k_is)
    (case k5 => k_is)
    (case a6 => k_is)
    (case l6 => k_is)
    (case c6 => k_is)
    (case k6 => k_is)
    (case a7 => k_is)
    (case l7 => k_is)
    (case c7 => k_is)
    (case k7 => k_is)
    (case a8 => k_is)
    (case l8 => k_is)
    (case c8 => k_is)
    (case k8 => k_is)
    (case a9 => k_is)
    (case l9 => k_is)
    (case c9 => k_is)
    (case k9 => k_is)
    (case a10 => k_is)
    (case l10 => k_is)
    (case c10 => k_is)
    (case k10 => k_is)
    (case a11 => k_is)
    (case l11 => k_is)
    (case c11 => k_is)
    (case k11 => k_is)
    (case a12 => k_is)
    (case l12 => k_is)
    (case c12 => k_is)
    (case k12 => k_is)
    (case a13 => k_is)
    (case l13 => k_is)
    (case c13 => k_is)
    (case k13 => k_is)
    (case a14 => k_is)
    (case l14 => k_is)
    (case c14 => k_is)
    (case k14 => k_is)
    (case a15 => k_is)
    (case l15 => k_is)
    (case c15 => k_is)
    (case k15 => k_is)
    (case a16 => k_is)
    (case l16 => k_is)
    (case c16 => k_is)
    (case k16 => k_is)
    (case a17 => k_is)
    (case l17 => k_is)
    (case c17 => k_is)
    (case k17 => k_is)
    (case a18 => k_is)
    (case l18 => k_is)
    (case c18 => k_is)
    (case k18 => k_is)
    (case a19 => k_is)
    (case l19 => k_is)
    (case c19 => k_is)
    (case k19 => k_is)
    (case a20 => k_is)
    (case l20 => k_is)
    (case c20 => k_is)
    (case k20 => k_is)
    (case a21 => k_is)
    (case l21 => k_is)
    (case c21 => k_is)
    (case k21 => k_is)
    (case a22 => k_is)
    (case l22 => k_is)
    (case c22 => k_is)
    (case k22 => k_is)
    (case a23 => k_is)
    (case l23 => k_is)
    (case c23 => k_is)
    (case k23 => k_is)
    (case z_abs => k_is)
    (case z_bool => k_is)
    (case z_enumerate => k_is)
    (case z_int => k_is)
    (case z_isinstance => k_is)
    (case z_len => k_is)
    (case z_list => k_is)
    (case z_range => k_is)
    (case z_set => k_is)
    (case z_sorted => k_is)
    (case z_str => k_is)
    (case z_sum => k_is)
    (case z_tuple => k_is)
