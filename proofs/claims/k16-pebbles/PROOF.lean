import PyProof.Rows.All
import Wide.All
import OpenK.AllK
import Wide.FinOn
import HandS.ForMost
import HandS.Conv
import HandS.SortInts
import HandS.SortRule
import HandS.Deep
import HandS.IsInst
import HandS.Flow
import HandS.Style
import HandS.Rev
import HandS.Small
import KE.SortData
import HandS.TupAny
import HandS.Zip
import HandS.RevTup
import HandS.DictComp
import HandS.More
import HandS.Set
import HandS.SetFor
import KE.SortCalls
import HandS.EndBits
import HandS.DictTup
import HandS.Dict
import PyProof.Rows.TupDisplay
import PySem.Challenge.RW_chasedwebs_k16_whole_pebbles
set_option Elab.async false
set_option maxRecDepth 100000
set_option maxHeartbeats 4000000
namespace Mir
open PySem L2

/-! ### data over a heap -/
mutual
inductive Rp (F : Hp) : V → PyData → Prop
  | non : Rp F .non .none
  | bl (b : Bool) : Rp F (.bl b) (.bool b)
  | int (i : Int) : Rp F (.int i) (.int i)
  | str (x : Str) : Rp F (.str x) (.str x)
  | lst {a : Addr} {xs : List V} {ds : List PyData} : F a = some (.lst xs) → Rps F xs ds → Rp F (.ref a) (.list ds)
  | tup {a : Addr} {xs : List V} {ds : List PyData} : F a = some (.tup xs) → Rps F xs ds → Rp F (.ref a) (.tuple ds)
inductive Rps (F : Hp) : List V → List PyData → Prop
  | nil : Rps F [] []
  | cons {v : V} {vs : List V} {d : PyData} {ds : List PyData} : Rp F v d → Rps F vs ds → Rps F (v :: vs) (d :: ds)
end
section
variable {F F' H : Hp}
mutual
theorem Rp.mono (e : Same F F') : ∀ (d : PyData) (v : V), Rp F v d → Rp F' v d
  | .none, _, h => by cases h; exact .non
  | .bool b, _, h => by cases h; exact .bl b
  | .int i, _, h => by cases h; exact .int i
  | .str x, _, h => by cases h; exact .str x
  | .list ds, _, h => by
    cases h with
    | lst h r => exact .lst (e _ _ h) (Rps.mono e ds _ r)
  | .tuple ds, _, h => by
    cases h with
    | tup h r => exact .tup (e _ _ h) (Rps.mono e ds _ r)
  | .dict _, _, h => by cases h
theorem Rps.mono (e : Same F F') : ∀ (ds : List PyData) (vs : List V), Rps F vs ds → Rps F' vs ds
  | [], _, h => by cases h; exact .nil
  | d :: ds, _, h => by
    cases h with
    | cons h r => exact .cons (Rp.mono e d _ h) (Rps.mono e ds _ r)
end
mutual
theorem Rp.dp {K : PySem.W.Frag} (e : Same F H) : ∀ (d : PyData) (v : V), Rp F v d → Dp K H v d
  | .none, _, h => by cases h; exact .non
  | .bool b, _, h => by cases h; exact .bl b
  | .int i, _, h => by cases h; exact .int i
  | .str x, _, h => by cases h; exact .str x
  | .list ds, _, h => by
    cases h with
    | lst h r => exact .lst (SqL.of (e _ _ h)) (Rps.dp e ds _ r)
  | .tuple ds, _, h => by
    cases h with
    | tup h r => exact .tup (SqT.of (e _ _ h)) (Rps.dp e ds _ r)
  | .dict _, _, h => by cases h
theorem Rps.dp {K : PySem.W.Frag} (e : Same F H) : ∀ (ds : List PyData) (vs : List V), Rps F vs ds → DpAll K H vs ds
  | [], _, h => by cases h; exact .nil
  | d :: ds, _, h => by
    cases h with
    | cons h r => exact .cons (Rp.dp e d _ h) (Rps.dp e ds _ r)
end
theorem Rps.paired : ∀ {vs : List V} {ds : List PyData}, Rps F vs ds → Paired (Rp F) vs ds
  | _, [], h => by cases h; exact .nil
  | _, _ :: _, h => by
    cases h with
    | cons h r => exact .cons h r.paired
theorem Rps.of : ∀ {vs : List V} {ds : List PyData}, Paired (Rp F) vs ds → Rps F vs ds
  | _, _, .nil => .nil
  | _, _, .cons h r => .cons h (Rps.of r)
theorem Rps.length {vs : List V} {ds : List PyData} (h : Rps F vs ds) : vs.length = ds.length := Paired.length h.paired
end
section
variable {α β : Type} {R : α → β → Prop}
theorem pr_get : ∀ {xs : List α} {ys : List β} {i : Nat} {y : β}, Paired R xs ys → ys[i]? = some y → ∃ x, xs[i]? = some x ∧ R x y
  | _, _, _, _, .nil, e => by simp at e
  | _, _, 0, _, .cons r _, e => by simp at e; subst e; exact ⟨_, rfl, r⟩
  | _, _, i + 1, y, .cons _ t, e => by
    obtain ⟨u, h1, h2⟩ := pr_get (i := i) (y := y) t (by simpa using e)
    exact ⟨u, by simpa using h1, h2⟩
theorem pr_getL : ∀ {xs : List α} {ys : List β} {i : Nat} {x : α}, Paired R xs ys → xs[i]? = some x → ∃ y, ys[i]? = some y ∧ R x y
  | _, _, _, _, .nil, e => by simp at e
  | _, _, 0, _, .cons r _, e => by simp at e; subst e; exact ⟨_, rfl, r⟩
  | _, _, i + 1, y, .cons _ t, e => by
    obtain ⟨u, h1, h2⟩ := pr_getL (i := i) (x := y) t (by simpa using e)
    exact ⟨u, by simpa using h1, h2⟩
theorem pr_set {x : α} {y : β} (r : R x y) : ∀ {xs : List α} {ys : List β} (i : Nat), Paired R xs ys → Paired R (xs.set i x) (ys.set i y)
  | _, _, _, .nil => .nil
  | _, _, 0, .cons _ t => .cons r t
  | _, _, i + 1, .cons q t => .cons q (pr_set r i t)
theorem pr_setL {x : α} (r : ∀ y, R x y) : ∀ {xs : List α} {ys : List β} (i : Nat), Paired R xs ys → Paired R (xs.set i x) ys
  | _, _, _, .nil => .nil
  | _, _, 0, .cons _ t => .cons (r _) t
  | _, _, i + 1, .cons q t => .cons q (pr_setL r i t)
theorem pr_app : ∀ {xs xs' : List α} {ys ys' : List β}, Paired R xs ys → Paired R xs' ys' → Paired R (xs ++ xs') (ys ++ ys')
  | _, _, _, _, .nil, s => s
  | _, _, _, _, .cons r t, s => .cons r (pr_app t s)
theorem pr_split : ∀ {xs xs' : List α} {ys ys' : List β}, xs.length = ys.length → Paired R (xs ++ xs') (ys ++ ys') → Paired R xs ys ∧ Paired R xs' ys'
  | [], _, [], _, _, h => ⟨.nil, h⟩
  | _ :: _, _, _ :: _, _, e, .cons r t => by
    obtain ⟨a, b⟩ := pr_split (by simpa using e) t
    exact ⟨.cons r a, b⟩
theorem pr_map {γ : Type} (f : γ → β) : ∀ {xs : List α} {ys : List γ}, Paired R xs (ys.map f) ↔ Paired (fun a c => R a (f c)) xs ys
  | xs, [] => ⟨fun h => (by cases h; exact .nil), fun h => (by cases h; exact .nil)⟩
  | xs, y :: ys => ⟨fun h => (by cases h with | cons r t => exact .cons r ((pr_map f).mp t)), fun h => (by cases h with | cons r t => exact .cons r ((pr_map f).mpr t))⟩
theorem pr_rev {xs : List α} {ys : List β} (h : Paired R xs ys) : Paired R xs.reverse ys.reverse := by
  induction h with
  | nil => exact .nil
  | cons r t ih => rw [List.reverse_cons, List.reverse_cons]; exact pr_app ih (.cons r .nil)
theorem pr_take : ∀ {xs : List α} {ys : List β} (n : Nat), Paired R xs ys → Paired R (xs.take n) (ys.take n)
  | _, _, 0, _ => .nil
  | _, _, _ + 1, .nil => .nil
  | _, _, n + 1, .cons r t => .cons r (pr_take n t)
theorem pr_drop : ∀ {xs : List α} {ys : List β} (n : Nat), Paired R xs ys → Paired R (xs.drop n) (ys.drop n)
  | _, _, 0, r => r
  | _, _, _ + 1, .nil => .nil
  | _, _, n + 1, .cons _ t => pr_drop n t
theorem pr_erase : ∀ {xs : List α} {ys : List β} (i : Nat), Paired R xs ys → Paired R (xs.eraseIdx i) (ys.eraseIdx i)
  | _, _, _, .nil => .nil
  | _, _, 0, .cons _ t => t
  | _, _, i + 1, .cons q t => .cons q (pr_erase i t)
end

/-! ### slots, owned objects -/
/-- what a slot holds: data; an owned object; the script -/
inductive Sl where
  | dat (d : PyData)
  | ptr (a : Addr)
  | scr (ns : List Int)
/-- an owned object: a list; a dict (t: its keys are tuples); a dict under a lock -/
inductive OD where
  | lst (xs : List Sl)
  | dic (t : Bool) (kvs : List (PyData × Sl))
  | lok (t : Bool) (kvs : List (PyData × Sl))
abbrev Ow := List (Addr × OD)
def kD : Key → PyData
  | .inl i => .int i
  | .inr x => .str x
def kTD (ks : List Key) : PyData := .tuple (ks.map kD)
section
variable (K : PySem.W.Frag)
def SvR (F : Hp) : V → Sl → Prop
  | v, .dat d => Rp F v d
  | v, .ptr a => v = .ref a
  | v, .scr ns => ∃ a, v = .ref a ∧ SqL K F a (ns.map V.int)
def SlR (F : Hp) : Option V → Option Sl → Prop
  | _, none => True
  | some v, some s => SvR K F v s
  | none, some _ => False
def DKR (F : Hp) : List (Key × V) → List (PyData × Sl) → Prop := Paired fun p q => q.1 = kD p.1 ∧ SvR K F p.2 q.2
def DTR (F : Hp) : List (List Key × V) → List (PyData × Sl) → Prop := Paired fun p q => q.1 = kTD p.1 ∧ SvR K F p.2 q.2
def ORep (F H : Hp) (a : Addr) : OD → Prop
  | .lst xs => ∃ vs, H a = some (.lst vs) ∧ Paired (SvR K F) vs xs
  | .dic false kvs => ∃ ws, H a = some (.dK ws) ∧ DKR K F ws kvs
  | .dic true kvs => ∃ ws, H a = some (.dT ws) ∧ DTR K F ws kvs
  | .lok false kvs => ∃ o ws, H a = some (.frz o (.dK ws)) ∧ DKR K F ws kvs
  | .lok true kvs => ∃ o ws, H a = some (.frz o (.dT ws)) ∧ DTR K F ws kvs
end
def SzO : HO → Prop
  | .lst xs => xs.length ≤ sizeLine
  | .tup xs => xs.length ≤ sizeLine
  | .dK ws => ws.length ≤ sizeLine
  | .dT ws => ws.length ≤ sizeLine
  | _ => True
def HSz (H : Hp) : Prop := ∀ a o, H a = some o → SzO o
def isTup : HO → Prop
  | .tup _ => True
  | _ => False
/-- B: what the body leaves as it is; F0: the data at the entry; F: the data now -/
structure Ok (K : PySem.W.Frag) (B F0 F H : Hp) (L : Ow) : Prop where
  up : Same F0 F
  le : Same F H
  amb : Same B H
  new : ∀ a o, F a = some o → F0 a = some o ∨ B a = none ∨ isTup o
  sz : HSz H
  own : ∀ p ∈ L, F p.1 = none ∧ B p.1 = none ∧ ORep K F H p.1 p.2
  nd : (L.map (·.1)).Nodup
def St (K : PySem.W.Frag) (B F0 : Hp) (ρ : List (Option Sl)) (L : Ow) (σ : L2.St) (H : Hp) (vs : List V) (ds : List Sl) : Prop :=
  ∃ F, Ok K B F0 F H L ∧ Paired (SlR K F) σ ρ ∧ Paired (SvR K F) vs ds

section
variable {K : PySem.W.Frag} {F F' F0 B H H' : Hp} {L L' : Ow} {ρ ρ' : List (Option Sl)} {σ σ' : L2.St} {vs ws : List V} {ds es : List Sl} {p : Addr} {o : HO}
theorem SvR.mono (e : Same F F') {v : V} {s : Sl} (h : SvR K F v s) : SvR K F' v s := by
  cases s with
  | dat d => exact Rp.mono e _ _ h
  | ptr a => exact h
  | scr ns =>
    obtain ⟨a, q, h⟩ := h
    exact ⟨a, q, e.seq h⟩
theorem SlR.mono (e : Same F F') {v : Option V} {s : Option Sl} (h : SlR K F v s) : SlR K F' v s := by
  cases s with
  | none => trivial
  | some s =>
    cases v with
    | none => exact h
    | some v => exact SvR.mono e h
theorem svs_mono (e : Same F F') (h : Paired (SvR K F) vs ds) : Paired (SvR K F') vs ds := Paired.mono (fun _ _ => SvR.mono e) h
theorem sls_mono (e : Same F F') (h : Paired (SlR K F) σ ρ) : Paired (SlR K F') σ ρ := Paired.mono (fun _ _ => SlR.mono e) h
theorem DKR.mono (e : Same F F') {a : List (Key × V)} {b : List (PyData × Sl)} (h : DKR K F a b) : DKR K F' a b := Paired.mono (fun _ _ q => ⟨q.1, q.2.mono e⟩) h
theorem DTR.mono (e : Same F F') {a : List (List Key × V)} {b : List (PyData × Sl)} (h : DTR K F a b) : DTR K F' a b := Paired.mono (fun _ _ q => ⟨q.1, q.2.mono e⟩) h
theorem ORep.mono (e : Same F F') {a : Addr} {d : OD} (hH : H' a = H a) (h : ORep K F H a d) : ORep K F' H' a d := by
  cases d with
  | lst xs =>
    obtain ⟨vs, h1, h2⟩ := h
    exact ⟨vs, hH.trans h1, svs_mono e h2⟩
  | dic t kvs =>
    cases t with
    | false => obtain ⟨ws, h1, h2⟩ := h; exact ⟨ws, hH.trans h1, h2.mono e⟩
    | true => obtain ⟨ws, h1, h2⟩ := h; exact ⟨ws, hH.trans h1, h2.mono e⟩
  | lok t kvs =>
    cases t with
    | false => obtain ⟨u, ws, h1, h2⟩ := h; exact ⟨u, ws, hH.trans h1, h2.mono e⟩
    | true => obtain ⟨u, ws, h1, h2⟩ := h; exact ⟨u, ws, hH.trans h1, h2.mono e⟩
theorem ORep.there {a : Addr} {d : OD} (h : ORep K F H a d) : ∃ o, H a = some o ∧ ¬ isTup o := by
  cases d with
  | lst xs => obtain ⟨vs, h1, h2⟩ := h; exact ⟨_, h1, fun z => z⟩
  | dic t kvs =>
    cases t with
    | false => obtain ⟨ws, h1, h2⟩ := h; exact ⟨_, h1, fun z => z⟩
    | true => obtain ⟨ws, h1, h2⟩ := h; exact ⟨_, h1, fun z => z⟩
  | lok t kvs =>
    cases t with
    | false => obtain ⟨u, ws, h1, h2⟩ := h; exact ⟨_, h1, fun z => z⟩
    | true => obtain ⟨u, ws, h1, h2⟩ := h; exact ⟨_, h1, fun z => z⟩
theorem same_new (h : H p = none) : Same H (upd H p o) := fun a u e => by rw [upd_ne (ne_of_none e h)]; exact e
theorem HSz.upd (h : HSz H) (z : SzO o) : HSz (upd H p o) := fun a u e => by
  by_cases q : a = p
  · subst q; rw [upd_same] at e; cases e; exact z
  · rw [upd_ne q] at e; exact h a u e
theorem Ok.freeF (k : Ok K B F0 F H L) (h : H p = none) : F p = none := k.le.free h
theorem Ok.freeB (k : Ok K B F0 F H L) (h : H p = none) : B p = none := k.amb.free h
theorem Ok.ne (k : Ok K B F0 F H L) (h : H p = none) {q : Addr × OD} (m : q ∈ L) : q.1 ≠ p := fun e => by
  obtain ⟨_, _, r⟩ := k.own q m
  obtain ⟨u, e2, _⟩ := r.there
  rw [e, h] at e2; cases e2
/-- a new piece of data -/
theorem Ok.data (k : Ok K B F0 F H L) (h : H p = none) (z : SzO o) : Ok K B F0 (upd F p o) (upd H p o) L where
  up := k.up.trans (same_new (k.freeF h))
  le := fun a u e => by
    by_cases q : a = p
    · subst q; rw [upd_same] at e; rw [upd_same]; exact e
    · rw [upd_ne q] at e; rw [upd_ne q]; exact k.le a u e
  amb := k.amb.trans (same_new h)
  new := fun a u e => by
    by_cases q : a = p
    · subst q; exact .inr (.inl (k.freeB h))
    · rw [upd_ne q] at e; exact k.new a u e
  sz := k.sz.upd z
  own := fun q m => by
    obtain ⟨a, b, r⟩ := k.own q m
    have n := k.ne h m
    exact ⟨by rw [upd_ne n]; exact a, b, r.mono (same_new (k.freeF h)) (upd_ne n)⟩
  nd := k.nd
/-- a new owned object, at the end -/
theorem Ok.alloc (k : Ok K B F0 F H L) (h : H p = none) (z : SzO o) {d : OD} (r : ORep K F (upd H p o) p d) : Ok K B F0 F (upd H p o) (L ++ [(p, d)]) where
  up := k.up
  le := k.le.trans (same_new h)
  amb := k.amb.trans (same_new h)
  new := k.new
  sz := k.sz.upd z
  own := fun q m => by
    rcases List.mem_append.mp m with m | m
    · obtain ⟨a, b, r⟩ := k.own q m
      exact ⟨a, b, r.mono (Same.refl _) (upd_ne (k.ne h m))⟩
    · have e : q = (p, d) := by simpa using m
      subst e
      exact ⟨k.freeF h, k.freeB h, r⟩
  nd := by
    rw [List.map_append, List.nodup_append]
    refine ⟨k.nd, by simp, fun a ha b hb => ?_⟩
    obtain ⟨q, hq, e⟩ := List.mem_map.mp ha
    have e2 : b = p := by simpa using hb
    rw [← e, e2]
    exact k.ne h hq
/-- an owned object is written -/
theorem Ok.write {d d' : OD} {L1 L2 : Ow} (k : Ok K B F0 F H (L1 ++ (p, d) :: L2)) (z : SzO o) (r : ORep K F (upd H p o) p d') : Ok K B F0 F (upd H p o) (L1 ++ (p, d') :: L2) := by
  have hp : F p = none ∧ B p = none := let q := k.own (p, d) (by simp); ⟨q.1, q.2.1⟩
  have nd := k.nd
  rw [List.map_append, List.map_cons, List.nodup_append, List.nodup_cons] at nd
  have ne : ∀ q ∈ L1 ++ L2, q.1 ≠ p := fun q m e => by
    rcases List.mem_append.mp m with m | m
    · exact nd.2.2 _ (List.mem_map_of_mem m) p (by simp) e
    · have m' : q.1 ∈ L2.map (·.1) := List.mem_map_of_mem m
      rw [e] at m'
      exact nd.2.1.1 m'
  refine ⟨k.up, fun a u e => ?_, fun a u e => ?_, k.new, k.sz.upd z, fun q m => ?_, ?_⟩
  · by_cases q : a = p
    · rw [q, hp.1] at e; cases e
    · rw [upd_ne q]; exact k.le a u e
  · by_cases q : a = p
    · rw [q, hp.2] at e; cases e
    · rw [upd_ne q]; exact k.amb a u e
  · by_cases m2 : q ∈ L1 ++ L2
    · have m3 : q ∈ L1 ++ (p, d) :: L2 := by
        rcases List.mem_append.mp m2 with m | m
        · exact List.mem_append_left _ m
        · exact List.mem_append_right _ (List.mem_cons_of_mem _ m)
      obtain ⟨a, b, r⟩ := k.own q m3
      exact ⟨a, b, r.mono (Same.refl _) (upd_ne (ne q m2))⟩
    · have e : q = (p, d') := by
        rcases List.mem_append.mp m with m | m
        · exact (m2 (List.mem_append_left _ m)).elim
        · rcases List.mem_cons.mp m with m | m
          · exact m
          · exact (m2 (List.mem_append_right _ m)).elim
      subst e
      exact ⟨hp.1, hp.2, r⟩
  · rw [List.map_append, List.map_cons, List.nodup_append, List.nodup_cons]; exact nd
theorem Ok.drop {d : OD} {L1 L2 : Ow} (k : Ok K B F0 F H (L1 ++ (p, d) :: L2)) : Ok K B F0 F H (L1 ++ L2) := by
  have nd := k.nd
  rw [List.map_append, List.map_cons, List.nodup_append, List.nodup_cons] at nd
  refine ⟨k.up, k.le, k.amb, k.new, k.sz, fun q m => k.own q ?_, ?_⟩
  · rcases List.mem_append.mp m with m | m
    · exact List.mem_append_left _ m
    · exact List.mem_append_right _ (List.mem_cons_of_mem _ m)
  · rw [List.map_append, List.nodup_append]
    exact ⟨nd.1, nd.2.1.2, fun a ha b hb => nd.2.2 a ha b (List.mem_cons_of_mem _ hb)⟩
/-- the slots of data -/
theorem dats : ∀ {vs : List V} {ds : List PyData}, Paired (SvR K F) vs (ds.map .dat) → Rps F vs ds
  | _, [], h => by cases h; exact .nil
  | _, _ :: _, h => by
    cases h with
    | cons r t => exact .cons r (dats t)
theorem dats_of : ∀ {vs : List V} {ds : List PyData}, Rps F vs ds → Paired (SvR K F) vs (ds.map .dat)
  | _, [], h => by cases h; exact .nil
  | _, _ :: _, h => by
    cases h with
    | cons r t => exact .cons r (dats_of t)
/-- an owned list becomes data -/
theorem Ok.freeze {ds : List PyData} {L1 L2 : Ow} (k : Ok K B F0 F H (L1 ++ (p, .lst (ds.map .dat)) :: L2)) : ∃ F', Ok K B F0 F' H (L1 ++ L2) ∧ Same F F' ∧ Rp F' (.ref p) (.list ds) := by
  obtain ⟨hp, hb, vs, h1, h2⟩ := k.own (p, .lst (ds.map .dat)) (by simp)
  have s : Same F (upd F p (.lst vs)) := same_new hp
  have k2 := k.drop
  have nd := k.nd
  rw [List.map_append, List.map_cons, List.nodup_append, List.nodup_cons] at nd
  have ne : ∀ q ∈ L1 ++ L2, q.1 ≠ p := fun q m e => by
    rcases List.mem_append.mp m with m | m
    · exact nd.2.2 _ (List.mem_map_of_mem m) p (by simp) e
    · have m' : q.1 ∈ L2.map (·.1) := List.mem_map_of_mem m
      rw [e] at m'
      exact nd.2.1.1 m'
  refine ⟨_, ⟨k2.up.trans s, fun a u e => ?_, k2.amb, fun a u e => ?_, k2.sz, fun q m => ?_, k2.nd⟩, s, .lst upd_same (Rps.mono s _ _ (dats h2))⟩
  · by_cases q : a = p
    · rw [q, upd_same] at e; rw [q, h1]; exact e
    · rw [upd_ne q] at e; exact k2.le a u e
  · by_cases q : a = p
    · rw [q]; exact .inr (.inl hb)
    · rw [upd_ne q] at e; exact k2.new a u e
  · obtain ⟨a, b, r⟩ := k2.own q m
    exact ⟨by rw [upd_ne (ne q m)]; exact a, b, r.mono s rfl⟩

/-! ### the state, step by step -/
theorem St.stack (h : St K B F0 ρ L σ H vs ds) (f : ∀ F, Paired (SvR K F) vs ds → Paired (SvR K F) ws es) : St K B F0 ρ L σ H ws es :=
  let ⟨F, k, a, b⟩ := h; ⟨F, k, a, f F b⟩
theorem St.pop {v : V} {d : Sl} (h : St K B F0 ρ L σ H (v :: vs) (d :: ds)) : St K B F0 ρ L σ H vs ds := h.stack fun _ q => by cases q with | cons _ t => exact t
theorem St.swap {v w : V} {d e : Sl} (h : St K B F0 ρ L σ H (v :: w :: vs) (d :: e :: ds)) : St K B F0 ρ L σ H (w :: v :: vs) (e :: d :: ds) := h.stack fun _ q => by
  cases q with | cons a t => cases t with | cons b t => exact .cons b (.cons a t)
theorem St.push {v : V} {d : Sl} (h : St K B F0 ρ L σ H vs ds) (q : ∀ F, SvR K F v d) : St K B F0 ρ L σ H (v :: vs) (d :: ds) := h.stack fun F r => .cons (q F) r
theorem St.int {i : Int} (h : St K B F0 ρ L σ H vs ds) : St K B F0 ρ L σ H (.int i :: vs) (.dat (.int i) :: ds) := h.push fun _ => .int i
theorem St.bl {i : Bool} (h : St K B F0 ρ L σ H vs ds) : St K B F0 ρ L σ H (.bl i :: vs) (.dat (.bool i) :: ds) := h.push fun _ => .bl i
theorem St.non (h : St K B F0 ρ L σ H vs ds) : St K B F0 ρ L σ H (.non :: vs) (.dat .none :: ds) := h.push fun _ => .non
theorem St.isInt {v : V} {i : Int} (h : St K B F0 ρ L σ H (v :: vs) (.dat (.int i) :: ds)) : v = .int i := by
  obtain ⟨F, k, a, b⟩ := h
  cases b with | cons r t => exact (by cases (show Rp F v (.int i) from r); rfl)
theorem St.isBl {v : V} {i : Bool} (h : St K B F0 ρ L σ H (v :: vs) (.dat (.bool i) :: ds)) : v = .bl i := by
  obtain ⟨F, k, a, b⟩ := h
  cases b with | cons r t => exact (by cases (show Rp F v (.bool i) from r); rfl)
theorem St.isNon {v : V} (h : St K B F0 ρ L σ H (v :: vs) (.dat .none :: ds)) : v = .non := by
  obtain ⟨F, k, a, b⟩ := h
  cases b with | cons r t => exact (by cases (show Rp F v .none from r); rfl)
theorem St.isPtr {v : V} {p : Addr} (h : St K B F0 ρ L σ H (v :: vs) (.ptr p :: ds)) : v = .ref p := by
  obtain ⟨F, k, a, b⟩ := h
  cases b with | cons r t => exact r
theorem St.tup1 {v : V} {xs : List PyData} (h : St K B F0 ρ L σ H (v :: vs) (.dat (.tuple xs) :: ds)) : ∃ a us, v = .ref a ∧ H a = some (.tup us) ∧ us.length = xs.length ∧ us.length ≤ sizeLine ∧ St K B F0 ρ L σ H (us ++ v :: vs) (xs.map .dat ++ .dat (.tuple xs) :: ds) := by
  obtain ⟨F, k, a, b⟩ := id h
  cases b with
  | cons r t =>
    have r' : Rp F v (.tuple xs) := r
    cases r' with
    | tup h1 h2 => exact ⟨_, _, rfl, k.le _ _ h1, h2.length, k.sz _ _ (k.le _ _ h1), F, k, a, pr_app (dats_of h2) (.cons (.tup h1 h2) t)⟩
theorem St.lst1 {v : V} {xs : List PyData} (h : St K B F0 ρ L σ H (v :: vs) (.dat (.list xs) :: ds)) : ∃ a us, v = .ref a ∧ H a = some (.lst us) ∧ us.length = xs.length ∧ us.length ≤ sizeLine ∧ St K B F0 ρ L σ H (us ++ v :: vs) (xs.map .dat ++ .dat (.list xs) :: ds) := by
  obtain ⟨F, k, a, b⟩ := id h
  cases b with
  | cons r t =>
    have r' : Rp F v (.list xs) := r
    cases r' with
    | lst h1 h2 => exact ⟨_, _, rfl, k.le _ _ h1, h2.length, k.sz _ _ (k.le _ _ h1), F, k, a, pr_app (dats_of h2) (.cons (.lst h1 h2) t)⟩
/-- a new tuple of what lies on the stack -/
theorem St.newTup {xs : List PyData} {us : List V} (h : St K B F0 ρ L σ H (us ++ vs) (xs.map .dat ++ ds)) (e : us.length = xs.length) (hp : H p = none) (z : us.length ≤ sizeLine) :
    St K B F0 ρ L σ (upd H p (.tup us)) (.ref p :: vs) (.dat (.tuple xs) :: ds) := by
  obtain ⟨F, k, a, b⟩ := h
  obtain ⟨b1, b2⟩ := pr_split (by rw [List.length_map]; exact e) b
  have s : Same F (upd F p (.tup us)) := same_new (k.freeF hp)
  exact ⟨_, k.data hp z, sls_mono s a, .cons (.tup upd_same (Rps.mono s _ _ (dats b1))) (svs_mono s b2)⟩
/-- a new owned list of what lies on the stack -/
theorem St.newLst {xs : List Sl} {us : List V} (h : St K B F0 ρ L σ H (us ++ vs) (xs ++ ds)) (e : us.length = xs.length) (hp : H p = none) (z : us.length ≤ sizeLine) :
    St K B F0 ρ (L ++ [(p, .lst xs)]) σ (upd H p (.lst us)) (.ref p :: vs) (.ptr p :: ds) := by
  obtain ⟨F, k, a, b⟩ := h
  obtain ⟨b1, b2⟩ := pr_split e b
  exact ⟨F, k.alloc (o := .lst us) hp z ⟨us, upd_same, b1⟩, a, .cons rfl b2⟩
/-- .. becomes data -/
theorem St.frz {xs : List PyData} {L1 L2 : Ow} {v : V} (h : St K B F0 ρ (L1 ++ (p, .lst (xs.map .dat)) :: L2) σ H (v :: vs) (.ptr p :: ds)) : St K B F0 ρ (L1 ++ L2) σ H (v :: vs) (.dat (.list xs) :: ds) := by
  obtain ⟨F, k, a, b⟩ := h
  obtain ⟨F', k', s, r⟩ := k.freeze
  cases b with
  | cons e t =>
    have e' : v = .ref p := e
    subst e'
    exact ⟨F', k', sls_mono s a, .cons r (svs_mono s t)⟩
end
end Mir
namespace Mir
open PySem L2

/-! ### encoders -/
abbrev dI : Int → PyData := .int
abbrev dB : Bool → PyData := .bool
def dN (_ : Unit) : PyData := .none
def dT {α : Type} (d : α → PyData) (xs : List α) : PyData := .tuple (xs.map d)
def dL {α : Type} (d : α → PyData) (xs : List α) : PyData := .list (xs.map d)
def dP {α β : Type} (d : α → PyData) (e : β → PyData) (p : α × β) : PyData := .tuple [d p.1, e p.2]
def dP3 {α β γ : Type} (d : α → PyData) (e : β → PyData) (f : γ → PyData) (p : α × β × γ) : PyData := .tuple [d p.1, e p.2.1, f p.2.2]
def dP4 {α β γ δ : Type} (d : α → PyData) (e : β → PyData) (f : γ → PyData) (g : δ → PyData) (p : α × β × γ × δ) : PyData := .tuple [d p.1, e p.2.1, f p.2.2.1, g p.2.2.2]
def dO {α : Type} (d : α → PyData) : Option α → PyData
  | none => .none
  | some x => d x
/-- data as it is -/
abbrev dD (d : PyData) : PyData := d
abbrev Env := List (Option Sl)

section
variable (X : Cx)
/-- an expression that gives data -/
def EX {α : Type} (d : α → PyData) (e : Expr) (ρ : Env) (L : Ow) (o : Option α) : Prop :=
  ∃ t, PE X e t ∧ ∀ a, o = some a → ∀ B F0 σ H vs ds Q, St X.K B F0 ρ L σ H vs ds → (∀ v H', St X.K B F0 ρ L σ H' (v :: vs) (.dat (d a) :: ds) → Q v H') → t σ H Q
/-- .. a new list -/
def EN {α : Type} (d : α → PyData) (e : Expr) (ρ : Env) (L : Ow) (o : Option (List α)) : Prop :=
  ∃ t, PE X e t ∧ ∀ a, o = some a → ∀ B F0 σ H vs ds Q, St X.K B F0 ρ L σ H vs ds → (∀ p H', St X.K B F0 ρ (L ++ [(p, .lst ((a.map d).map .dat))]) σ H' (.ref p :: vs) (.ptr p :: ds) → Q (.ref p) H') → t σ H Q
/-- .. a new owned object -/
def EO {α : Type} (d : α → OD) (e : Expr) (ρ : Env) (L : Ow) (o : Option α) : Prop :=
  ∃ t, PE X e t ∧ ∀ a, o = some a → ∀ B F0 σ H vs ds Q, St X.K B F0 ρ L σ H vs ds → (∀ p H', St X.K B F0 ρ (L ++ [(p, d a)]) σ H' (.ref p :: vs) (.ptr p :: ds) → Q (.ref p) H') → t σ H Q
/-- .. any slot's value -/
def ES (e : Expr) (ρ : Env) (L : Ow) (o : Option Sl) : Prop :=
  ∃ t, PE X e t ∧ ∀ a, o = some a → ∀ B F0 σ H vs ds Q, St X.K B F0 ρ L σ H vs ds → (∀ v H', St X.K B F0 ρ L σ H' (v :: vs) (a :: ds) → Q v H') → t σ H Q
/-- an expression that may turn what is owned: the world w, its objects Lf w -/
def EM {α W : Type} (d : α → PyData) (e : Expr) (ρ : Env) (Lf : W → Ow) (w : W) (m : Option (α × W)) : Prop :=
  ∃ t, PE X e t ∧ ∀ a w', m = some (a, w') → ∀ B F0 σ H vs ds Q, St X.K B F0 ρ (Lf w) σ H vs ds → (∀ v H', St X.K B F0 ρ (Lf w') σ H' (v :: vs) (.dat (d a) :: ds) → Q v H') → t σ H Q
/-- a test -/
def TX (e : Expr) (ρ : Env) (L : Ow) (o : Option Bool) : Prop :=
  ∃ t, PT X e t ∧ ∀ a, o = some a → ∀ B F0 σ H vs ds Q, St X.K B F0 ρ L σ H vs ds → (∀ H', St X.K B F0 ρ L σ H' vs ds → Q a H') → t σ H Q
def WX (e : Expr) (ρ : Env) (L : Ow) (o : Option Bool) : Prop :=
  ∃ t, PW X e t ∧ ∀ a, o = some a → ∀ B F0 σ H vs ds Q, St X.K B F0 ρ L σ H vs ds → (∀ H', St X.K B F0 ρ L σ H' vs ds → Q a H') → t σ H Q
def TM {W : Type} (e : Expr) (ρ : Env) (Lf : W → Ow) (w : W) (m : Option (Bool × W)) : Prop :=
  ∃ t, PT X e t ∧ ∀ a w', m = some (a, w') → ∀ B F0 σ H vs ds Q, St X.K B F0 ρ (Lf w) σ H vs ds → (∀ H', St X.K B F0 ρ (Lf w') σ H' vs ds → Q a H') → t σ H Q
/-- arguments -/
def AX {α : Type} (enc : α → List Sl) (es : List Expr) (ρ : Env) (L : Ow) (o : Option α) : Prop :=
  ∃ t, PA X es t ∧ ∀ a, o = some a → ∀ B F0 σ H vs ds Q, St X.K B F0 ρ L σ H vs ds → (∀ us H', us.length = (enc a).length → St X.K B F0 ρ L σ H' (us ++ vs) (enc a ++ ds) → Q us H') → t σ H Q
def AM {α W : Type} (enc : α → List Sl) (es : List Expr) (ρ : Env) (Lf : W → Ow) (w : W) (m : Option (α × W)) : Prop :=
  ∃ t, PA X es t ∧ ∀ a w', m = some (a, w') → ∀ B F0 σ H vs ds Q, St X.K B F0 ρ (Lf w) σ H vs ds → (∀ us H', us.length = (enc a).length → St X.K B F0 ρ (Lf w') σ H' (us ++ vs) (enc a ++ ds) → Q us H') → t σ H Q
end
/-- a slot that reads as a list or tuple of data -/
inductive SeqOf (L : Ow) : Sl → List PyData → Prop
  | lst (ds : List PyData) : SeqOf L (.dat (.list ds)) ds
  | tup (ds : List PyData) : SeqOf L (.dat (.tuple ds)) ds
  | own {p : Addr} {ds : List PyData} : (p, OD.lst (ds.map .dat)) ∈ L → SeqOf L (.ptr p) ds
  | scr (ns : List Int) : SeqOf L (.scr ns) (ns.map .int)
/-- an expression that gives a list or tuple to be read -/
def QX (X : Cx) {α : Type} (d : α → PyData) (e : Expr) (ρ : Env) (L : Ow) (o : Option (List α)) : Prop :=
  ∃ t, PE X e t ∧ ∀ a, o = some a → ∀ B F0 σ H vs ds Q, St X.K B F0 ρ L σ H vs ds → (∀ v s H', SeqOf L s (a.map d) → St X.K B F0 ρ L σ H' (v :: vs) (s :: ds) → Q v H') → t σ H Q

section
variable {K : PySem.W.Frag} {B F0 H : Hp} {L : Ow} {ρ : Env} {σ : L2.St} {vs : List V} {ds : List Sl}
theorem St.own1 {p : Addr} {xs : List Sl} (m : (p, OD.lst xs) ∈ L) (h : St K B F0 ρ L σ H vs ds) : ∃ us, H p = some (.lst us) ∧ us.length = xs.length ∧ us.length ≤ sizeLine ∧ St K B F0 ρ L σ H (us ++ vs) (xs ++ ds) := by
  obtain ⟨F, k, a, b⟩ := h
  obtain ⟨_, _, us, h1, h2⟩ := k.own _ m
  exact ⟨us, h1, Paired.length h2, k.sz _ _ h1, F, k, a, pr_app h2 b⟩
theorem ints_sv {F : Hp} (ns : List Int) : Paired (SvR K F) (ns.map V.int) ((ns.map PyData.int).map .dat) := by
  induction ns with
  | nil => exact .nil
  | cons n r ih => exact .cons (.int n) ih
/-- what a sequence's slot reads as, on the heap: a list, or a tuple that is data -/
theorem St.seq2 {v : V} {s : Sl} {xs : List PyData} (q : SeqOf L s xs) (h : St K B F0 ρ L σ H (v :: vs) (s :: ds)) :
    (∃ a us, v = .ref a ∧ SqL K H a us ∧ us.length = xs.length ∧ St K B F0 ρ L σ H (us ++ v :: vs) (xs.map .dat ++ s :: ds)) ∨
    (∃ a us, v = .ref a ∧ SqT K H a us ∧ us.length = xs.length ∧ St K B F0 ρ L σ H (us ++ v :: vs) (xs.map .dat ++ s :: ds) ∧ s = .dat (.tuple xs)) := by
  cases q with
  | lst =>
    obtain ⟨a, us, e, h1, h2, _, h3⟩ := h.lst1
    exact .inl ⟨a, us, e, SqL.of h1, h2, h3⟩
  | tup =>
    obtain ⟨a, us, e, h1, h2, _, h3⟩ := h.tup1
    exact .inr ⟨a, us, e, SqT.of h1, h2, h3, rfl⟩
  | own m =>
    have e := h.isPtr
    obtain ⟨us, h1, h2, _, h3⟩ := h.own1 m
    exact .inl ⟨_, us, e, SqL.of h1, by rw [h2, List.length_map], h3⟩
  | scr ns =>
    obtain ⟨F, k, a, b⟩ := h
    cases b with
    | cons r t =>
      obtain ⟨p, e, hq⟩ := r
      exact .inl ⟨p, ns.map V.int, e, k.le.seq hq, by simp, F, k, a, pr_app (ints_sv ns) (.cons ⟨p, e, hq⟩ t)⟩
theorem St.seq {v : V} {s : Sl} {xs : List PyData} (q : SeqOf L s xs) (h : St K B F0 ρ L σ H (v :: vs) (s :: ds)) :
    ∃ a us, v = .ref a ∧ (SqL K H a us ∨ SqT K H a us) ∧ us.length = xs.length ∧ St K B F0 ρ L σ H (us ++ v :: vs) (xs.map .dat ++ s :: ds) := by
  rcases h.seq2 q with ⟨a, us, e, h1, h2, h3⟩ | ⟨a, us, e, h1, h2, h3, _⟩
  · exact ⟨a, us, e, .inl h1, h2, h3⟩
  · exact ⟨a, us, e, .inr h1, h2, h3⟩
theorem ints_of {F : Hp} : ∀ {us : List V} {ns : List Int}, Paired (SvR K F) us ((ns.map PyData.int).map .dat) → us = ns.map V.int
  | _, [], h => by cases h; rfl
  | _, n :: ns, h => by
    cases h with
    | cons r t =>
      have r' : Rp F _ (.int n) := r
      cases r'
      rw [List.map_cons, ints_of t]
theorem St.ints {us : List V} {ns : List Int} (h : St K B F0 ρ L σ H (us ++ vs) ((ns.map PyData.int).map .dat ++ ds)) (e : us.length = ns.length) : us = ns.map V.int := by
  obtain ⟨F, k, a, b⟩ := h
  obtain ⟨b1, _⟩ := pr_split (by simpa using e) b
  exact ints_of b1
theorem St.flats {us : List V} {xs : List PyData} (h : St K B F0 ρ L σ H (us ++ vs) (xs.map .dat ++ ds)) (e : us.length = xs.length) : St K B F0 ρ L σ H vs ds := h.stack fun F q => (pr_split (by simpa using e) q).2
end

section
variable {X : Cx} {α β γ δ W : Type} {e a b c : Expr} {ρ : Env} {L : Ow} {pos : Pos}
theorem EX.conv {d : α → PyData} {o o' : Option α} (h : EX X d e ρ L o) (q : o = o') : EX X d e ρ L o' := q ▸ h
theorem EN.conv {d : α → PyData} {o o' : Option (List α)} (h : EN X d e ρ L o) (q : o = o') : EN X d e ρ L o' := q ▸ h
theorem TX.conv {o o' : Option Bool} (h : TX X e ρ L o) (q : o = o') : TX X e ρ L o' := q ▸ h
theorem EM.conv {d : α → PyData} {Lf : W → Ow} {w : W} {o o' : Option (α × W)} (h : EM X d e ρ Lf w o) (q : o = o') : EM X d e ρ Lf w o' := q ▸ h
/-- the same value by another encoder -/
theorem EX.re {d : α → PyData} {d' : β → PyData} {o : Option α} {f : α → β} (h : EX X d e ρ L o) (q : ∀ a, d' (f a) = d a) : EX X d' e ρ L (o.map f) := by
  obtain ⟨t, p, h⟩ := h
  refine ⟨t, p, fun b hb B F0 σ H vs ds Q s k => ?_⟩
  obtain ⟨a, ha, rfl⟩ := Option.map_eq_some_iff.mp hb
  exact h a ha B F0 σ H vs ds Q s fun v H' s' => k v H' (by rw [q]; exact s')
theorem x_re {d : α → PyData} {d' : β → PyData} {a : α} {b : β} (h : EX X d e ρ L (some a)) (q : d' b = d a) : EX X d' e ρ L (some b) := by
  obtain ⟨t, p, h⟩ := h
  exact ⟨t, p, fun c hc B F0 σ H vs ds Q s k => h a rfl B F0 σ H vs ds Q s fun v H' s' => k v H' (by cases hc; rw [q]; exact s')⟩
/-- a value that may be None, where it is not -/
theorem x_some {d : α → PyData} {o : Option (Option α)} (h : EX X (dO d) e ρ L o) : EX X d e ρ L (o.bind id) := by
  obtain ⟨t, p, h⟩ := h
  refine ⟨t, p, fun a ha B F0 σ H vs ds Q s k => ?_⟩
  obtain ⟨x, hx, e⟩ := Option.bind_eq_some_iff.mp ha
  have e' : x = some a := e
  subst e'
  exact h _ hx B F0 σ H vs ds Q s k
theorem x_opt {d : α → PyData} {o : Option α} (h : EX X d e ρ L o) : EX X (dO d) e ρ L (o.map some) := h.re fun _ => rfl
/-- a pure expression among those that turn the world -/
theorem EX.m {d : α → PyData} {o : Option α} {Lf : W → Ow} {w : W} (h : EX X d e ρ (Lf w) o) : EM X d e ρ Lf w (o.map fun a => (a, w)) := by
  obtain ⟨t, p, h⟩ := h
  refine ⟨t, p, fun a w' hm B F0 σ H vs ds Q s k => ?_⟩
  obtain ⟨x, hx, e⟩ := Option.map_eq_some_iff.mp hm
  injection e with e1 e2
  subst e1 e2
  exact h _ hx B F0 σ H vs ds Q s k
theorem TX.m {o : Option Bool} {Lf : W → Ow} {w : W} (h : TX X e ρ (Lf w) o) : TM X e ρ Lf w (o.map fun a => (a, w)) := by
  obtain ⟨t, p, h⟩ := h
  refine ⟨t, p, fun a w' hm B F0 σ H vs ds Q s k => ?_⟩
  obtain ⟨x, hx, e⟩ := Option.map_eq_some_iff.mp hm
  injection e with e1 e2
  subst e1 e2
  exact h _ hx B F0 σ H vs ds Q s k

/-! ### names and constants -/
theorem pr_at {K : PySem.W.Frag} {F : Hp} {σ : L2.St} {s : Sl} {i : Nat} (h : Paired (SlR K F) σ ρ) (e : ρ[i]? = some (some s)) : ∃ v, σ[i]? = some (some v) ∧ SvR K F v s := by
  obtain ⟨o, h1, h2⟩ := pr_get h e
  cases o with
  | none => exact h2.elim
  | some v => exact ⟨v, h1, h2⟩
theorem s_var (i : Nat) {x : Str} {s : Sl} (hρ : ρ[i]? = some (some s)) (hN : X.N[i]? = some x := by rfl) (hv : Vis X.env.scope x := by first | exact Or.inl rfl | exact Or.inr (Or.inl rfl) | exact Or.inr (Or.inr rfl)) (hd : (x == ("__debug__" : Str)) = false := by decide)
    (hcd : (x == ("__classdict__" : Str)) = false := by decide) : ES X (.Name x pos) ρ L (some s) := by
  refine ⟨_, pe_var hN hv hd hcd, fun a ha B F0 σ H vs ds Q st k => ?_⟩
  cases ha
  obtain ⟨F, ok, sl, sv⟩ := st
  obtain ⟨v, h1, h2⟩ := pr_at sl hρ
  exact ⟨v, h1, k v H ⟨F, ok, sl, .cons h2 sv⟩⟩
theorem ES.x {d : α → PyData} {a : α} (h : ES X e ρ L (some (.dat (d a)))) : EX X d e ρ L (some a) := by
  obtain ⟨t, p, h⟩ := h
  exact ⟨t, p, fun b hb B F0 σ H vs ds Q s k => by cases hb; exact h _ rfl B F0 σ H vs ds Q s k⟩
theorem x_var (i : Nat) {x : Str} {d : α → PyData} {a : α} (hρ : ρ[i]? = some (some (.dat (d a))) := by rfl) (hN : X.N[i]? = some x := by rfl) (hv : Vis X.env.scope x := by first | exact Or.inl rfl | exact Or.inr (Or.inl rfl) | exact Or.inr (Or.inr rfl)) (hd : (x == ("__debug__" : Str)) = false := by decide)
    (hcd : (x == ("__classdict__" : Str)) = false := by decide) : EX X d (.Name x pos) ρ L (some a) := (s_var i hρ hN hv hd hcd).x
theorem x_int {i : Int} {j : Nat} : EX X dI (.Constant (.int i) j pos) ρ L (some i) := ⟨_, pe_int, fun a ha B F0 σ H vs ds Q s k => by cases ha; exact k _ _ s.int⟩
theorem x_bool {i : Bool} {j : Nat} : EX X dB (.Constant (.bool i) j pos) ρ L (some i) := ⟨_, pe_bl, fun a ha B F0 σ H vs ds Q s k => by cases ha; exact k _ _ s.bl⟩
theorem x_none {j : Nat} {d : α → PyData} : EX X (dO d) (.Constant .none j pos) ρ L (some none) := ⟨_, pe_non, fun a ha B F0 σ H vs ds Q s k => by cases ha; exact k _ _ s.non⟩
theorem x_unit {j : Nat} : EX X dN (.Constant .none j pos) ρ L (some ()) := ⟨_, pe_non, fun a ha B F0 σ H vs ds Q s k => by cases ha; exact k _ _ s.non⟩

/-! ### two-place operations on ints -/
/-- an operation by values: on two pieces of data it gives a third -/
def Op2 (K : PySem.W.Frag) (r : R2) (d : α → PyData) (e : β → PyData) (f : γ → PyData) (g : α → β → Option γ) : Prop :=
  ∀ x y z, g x y = some z → ∀ B F0 ρ L σ H vs ds v u Q, St K B F0 ρ L σ H (u :: v :: vs) (.dat (e y) :: .dat (d x) :: ds) → (∀ w H', St K B F0 ρ L σ H' (w :: vs) (.dat (f z) :: ds) → Q w H') → r v u H Q
variable {d : α → PyData} {d' : β → PyData} {f : γ → PyData} {oa : Option α} {ob : Option β}
theorem x_op {op : Operator} {r : R2} {g : α → β → Option γ} (ho : OpR X (binaryOp op) r) (hg : Op2 X.K r d d' f g) (ha : EX X d a ρ L oa) (hb : EX X d' b ρ L ob) : EX X f (.BinOp a op b pos) ρ L (oa.bind fun x => ob.bind fun y => g x y) := by
  obtain ⟨ta, pa, ha⟩ := ha
  obtain ⟨tb, pb, hb⟩ := hb
  refine ⟨_, pe_op ho pa pb, fun z hz B F0 σ H vs ds Q s k => ?_⟩
  obtain ⟨x, hx, hz⟩ := Option.bind_eq_some_iff.mp hz
  obtain ⟨y, hy, hz⟩ := Option.bind_eq_some_iff.mp hz
  exact ha x hx B F0 σ H vs ds _ s fun v H1 s1 => hb y hy B F0 σ H1 _ _ _ s1 fun u H2 s2 => hg x y z hz B F0 ρ L σ H2 vs ds v u Q s2 k
theorem m_op {op : Operator} {r : R2} {g : α → β → Option γ} {Lf : W → Ow} {w : W} {ma : Option (α × W)} {mb : α → W → Option (β × W)} (ho : OpR X (binaryOp op) r) (hg : Op2 X.K r d d' f g) (ha : EM X d a ρ Lf w ma) (hb : ∀ x w1, EM X d' b ρ Lf w1 (mb x w1)) :
    EM X f (.BinOp a op b pos) ρ Lf w (ma.bind fun x => (mb x.1 x.2).bind fun y => (g x.1 y.1).map fun z => (z, y.2)) := by
  obtain ⟨ta, pa, ha⟩ := ha
  have hb' : ∃ tb, PE X b tb ∧ ∀ x w1, ∀ a w', mb x w1 = some (a, w') → ∀ B F0 σ H vs ds Q, St X.K B F0 ρ (Lf w1) σ H vs ds → (∀ v H', St X.K B F0 ρ (Lf w') σ H' (v :: vs) (.dat (d' a) :: ds) → Q v H') → tb σ H Q := by
    refine ⟨fun σ H Q => ∃ x w1 a w' B F0 vs ds, mb x w1 = some (a, w') ∧ St X.K B F0 ρ (Lf w1) σ H vs ds ∧ ∀ v H', St X.K B F0 ρ (Lf w') σ H' (v :: vs) (.dat (d' a) :: ds) → Q v H', ⟨fun pins s σ H Q I h => ?_⟩, fun x w1 a w' e B F0 σ H vs ds Q s k => ⟨x, w1, a, w', B, F0, vs, ds, e, s, k⟩⟩
    obtain ⟨x, w1, a, w', B, F0, vs, ds, e, st, k⟩ := h
    obtain ⟨tb, pb, hb⟩ := hb x w1
    exact pb.run pins s σ H Q I (hb a w' e B F0 σ H vs ds Q st k)
  obtain ⟨tb, pb, hb⟩ := hb'
  refine ⟨_, pe_op ho pa pb, fun z w3 hz B F0 σ H vs ds Q s k => ?_⟩
  obtain ⟨⟨x, w1⟩, hx, hz⟩ := Option.bind_eq_some_iff.mp hz
  obtain ⟨⟨y, w2⟩, hy, hz⟩ := Option.bind_eq_some_iff.mp hz
  obtain ⟨z', hz', e⟩ := Option.map_eq_some_iff.mp hz
  injection e with e1 e2
  subst e1 e2
  exact ha x w1 hx B F0 σ H vs ds _ s fun v H1 s1 => hb x w1 y w2 hy B F0 σ H1 _ _ _ s1 fun u H2 s2 => hg x y _ hz' B F0 ρ _ σ H2 vs ds v u Q s2 k
end
end Mir
namespace Mir
open PySem L2

/-! ### partial operations -/
def smallI (i : Int) : Bool := decide (-18446744073709551616 < i) && decide (i < 18446744073709551616)
noncomputable def mulO (i j : Int) : Option Int := @ite _ ((smallI i || smallI j) = true) (Classical.propDecidable _) (some (i * j)) none
noncomputable def fdivO (i j : Int) : Option Int := @ite _ (j ≠ 0 ∧ j.natAbs < 1073741824) (Classical.propDecidable _) (some (i.fdiv j)) none
noncomputable def fmodO (i j : Int) : Option Int := @ite _ (j ≠ 0) (Classical.propDecidable _) (some (i.fmod j)) none
def shiftOk (i j : Int) : Bool := decide (0 ≤ j) && decide (j ≤ 1000000) && decide (i.natAbs < 18446744073709551616)
noncomputable def shlO (i j : Int) : Option Int := @ite _ (shiftOk i j = true) (Classical.propDecidable _) (some (i * 2 ^ j.toNat)) none
noncomputable def powO (i j : Int) : Option Int := @ite _ (shiftOk i j = true) (Classical.propDecidable _) (some (i ^ j.toNat)) none
noncomputable def shrO (i j : Int) : Option Int := @ite _ (0 ≤ j) (Classical.propDecidable _) (some (i / 2 ^ j.toNat)) none
def bAnd (i j : Int) : Int := Builtin.bitAnd i j
def bOr (i j : Int) : Int := Builtin.bitOr i j
def bXor (i j : Int) : Int := Builtin.bitXor i j
/-- a sequence's item -/
def atO {α : Type} (xs : List α) (i : Int) : Option α := atI xs i
noncomputable def szO {α : Type} (n : Nat) (x : α) : Option α := @ite _ (n ≤ sizeLine) (Classical.propDecidable _) (some x) none
noncomputable def catO {α : Type} (xs ys : List α) : Option (List α) := szO (xs.length + ys.length) (xs ++ ys)
noncomputable def repO {α : Type} (xs : List α) (k : Int) : Option (List α) :=
  @ite _ (-9223372036854775808 ≤ k ∧ k < 9223372036854775808 ∧ xs.length * k.toNat ≤ sizeLine) (Classical.propDecidable _) (some (List.replicate k.toNat xs).flatten) none
def rng (a b : Int) : List Int := (List.range (b - a).toNat).map fun i => a + (i : Nat)
def bigI (a : Int) : Bool := decide (-4611686018427387904 ≤ a) && decide (a < 4611686018427387904)
/-- range(a, b) walked -/
noncomputable def rngO (a b : Int) : Option (List Int) := @ite _ ((bigI a && bigI b) = true) (Classical.propDecidable _) (some (rng a b)) none
/-- list(range(a, b)) -/
noncomputable def rngL (a b : Int) : Option (List Int) := @ite _ ((bigI a = true ∧ bigI b = true) ∧ (b - a).toNat ≤ 16777216) (Classical.propDecidable _) (some (rng a b)) none

/-! ### data that is equal just if its encoding is -/
structure Lw {α : Type} [DecidableEq α] (n : Nat) (d : α → PyData) : Prop where
  eqv : ∀ a b, PyData.eqv (d a) (d b) = decide (a = b)
  lay : ∀ a, (d a).canLay0 = true
  dep : ∀ a, (d a).depth ≤ n
section
variable {α β γ δ : Type} [DecidableEq α] [DecidableEq β] [DecidableEq γ] [DecidableEq δ] {n m : Nat} {d : α → PyData} {e : β → PyData} {f : γ → PyData} {g : δ → PyData}
theorem lw_int : Lw 0 dI := ⟨fun a b => by
  rw [PyData.eqv]
  by_cases h : a = b
  · subst h; simp
  · simp [h], fun _ => by simp [PyData.canLay0], fun _ => by simp [PyData.depth]⟩
theorem lw_bool : Lw 0 dB := ⟨fun a b => by rw [PyData.eqv]; by_cases h : a = b <;> simp [h], fun _ => by simp [PyData.canLay0], fun _ => by simp [PyData.depth]⟩
theorem eqvAll_map (h : ∀ a b, PyData.eqv (d a) (d b) = decide (a = b)) : ∀ xs ys : List α, PyData.eqvAll (xs.map d) (ys.map d) = decide (xs = ys)
  | [], [] => by simp [PyData.eqvAll]
  | [], _ :: _ => by simp [PyData.eqvAll]
  | _ :: _, [] => by simp [PyData.eqvAll]
  | x :: xs, y :: ys => by
    rw [List.map_cons, List.map_cons, PyData.eqvAll, h, eqvAll_map h xs ys]
    by_cases q : x = y <;> by_cases r : xs = ys <;> simp [q, r]
theorem layAll_map (h : ∀ a, (d a).canLay0 = true) : ∀ xs : List α, PyData.canLayAll0 (xs.map d) = true
  | [] => by simp [PyData.canLayAll0]
  | x :: xs => by rw [List.map_cons, PyData.canLayAll0, h, layAll_map h xs]; rfl
theorem depAll_map (h : ∀ a, (d a).depth ≤ n) : ∀ xs : List α, PyData.depthAll (xs.map d) ≤ n
  | [] => by simp [PyData.depthAll]
  | x :: xs => by
    rw [List.map_cons, PyData.depthAll]
    exact Nat.max_le.mpr ⟨h x, depAll_map h xs⟩
theorem lw_tup (h : Lw n d) : Lw (n + 1) (dT d) := ⟨fun a b => by
  unfold dT
  rw [PyData.eqv]; exact eqvAll_map h.eqv a b, fun a => by unfold dT; rw [PyData.canLay0]; exact layAll_map h.lay a, fun a => by unfold dT; rw [PyData.depth]; exact Nat.add_le_add_right (depAll_map h.dep a) 1⟩
theorem lw_lst (h : Lw n d) : Lw (n + 1) (dL d) := ⟨fun a b => by
  unfold dL
  rw [PyData.eqv]; exact eqvAll_map h.eqv a b, fun a => by unfold dL; rw [PyData.canLay0]; exact layAll_map h.lay a, fun a => by unfold dL; rw [PyData.depth]; exact Nat.add_le_add_right (depAll_map h.dep a) 1⟩
theorem Lw.le (h : Lw n d) (q : n ≤ m) : Lw m d := ⟨h.eqv, h.lay, fun a => Nat.le_trans (h.dep a) q⟩
theorem lw_pair (h : Lw n d) (k : Lw n e) : Lw (n + 1) (dP d e) := ⟨fun a b => by
  obtain ⟨a1, a2⟩ := a
  obtain ⟨b1, b2⟩ := b
  simp only [dP, PyData.eqv, PyData.eqvAll, h.eqv, k.eqv, Prod.mk.injEq]
  by_cases q : a1 = b1 <;> by_cases r : a2 = b2 <;> simp [q, r], fun a => by simp [dP, PyData.canLay0, PyData.canLayAll0, h.lay, k.lay], fun a => by
  simp only [dP, PyData.depth, PyData.depthAll]
  have := h.dep a.1
  have := k.dep a.2
  omega⟩
theorem lw_3 (h : Lw n d) (k : Lw n e) (l : Lw n f) : Lw (n + 1) (dP3 d e f) := ⟨fun a b => by
  obtain ⟨a1, a2, a3⟩ := a
  obtain ⟨b1, b2, b3⟩ := b
  simp only [dP3, PyData.eqv, PyData.eqvAll, h.eqv, k.eqv, l.eqv, Prod.mk.injEq]
  by_cases q : a1 = b1 <;> by_cases r : a2 = b2 <;> by_cases s : a3 = b3 <;> simp [q, r, s], fun a => by simp [dP3, PyData.canLay0, PyData.canLayAll0, h.lay, k.lay, l.lay], fun a => by
  simp only [dP3, PyData.depth, PyData.depthAll]
  have := h.dep a.1
  have := k.dep a.2.1
  have := l.dep a.2.2
  omega⟩
theorem lw_4 (h : Lw n d) (k : Lw n e) (l : Lw n f) (o : Lw n g) : Lw (n + 1) (dP4 d e f g) := ⟨fun a b => by
  obtain ⟨a1, a2, a3, a4⟩ := a
  obtain ⟨b1, b2, b3, b4⟩ := b
  simp only [dP4, PyData.eqv, PyData.eqvAll, h.eqv, k.eqv, l.eqv, o.eqv, Prod.mk.injEq]
  by_cases q : a1 = b1 <;> by_cases r : a2 = b2 <;> by_cases s : a3 = b3 <;> by_cases t : a4 = b4 <;> simp [q, r, s, t], fun a => by simp [dP4, PyData.canLay0, PyData.canLayAll0, h.lay, k.lay, l.lay, o.lay], fun a => by
  simp only [dP4, PyData.depth, PyData.depthAll]
  have := h.dep a.1
  have := k.dep a.2.1
  have := l.dep a.2.2.1
  have := o.dep a.2.2.2
  omega⟩
theorem lw_opt (h : Lw n d) (k : ∀ a, PyData.eqv .none (d a) = false ∧ PyData.eqv (d a) .none = false) : Lw n (dO d) := ⟨fun a b => by
  cases a <;> cases b <;> simp [dO, PyData.eqv, h.eqv, k], fun a => by cases a <;> simp [dO, PyData.canLay0, h.lay], fun a => by cases a <;> simp [dO, PyData.depth, h.dep]⟩
theorem Lw.shaped (h : Lw n d) (q : n ≤ 64 := by decide) (a : α) : SeqAt.shaped (d a) = true := by
  unfold SeqAt.shaped
  rw [h.lay, Bool.true_and]
  exact decide_eq_true (Nat.le_trans (h.dep a) q)
end

/-! ### operations by values -/
section
variable {K : PySem.W.Frag} {α β γ : Type}
theorem op2_II {g : Int → Int → V} {h : Int → Int → γ} {f : γ → PyData} (q : ∀ i j F, Rp F (g i j) (f (h i j))) : Op2 K (rI0 g) dI dI f (fun i j => some (h i j)) := by
  intro i j z hz B F0 ρ L σ H vs ds v u Q s k
  cases hz
  have e1 := s.isInt
  have e2 := s.pop.isInt
  exact ⟨i, j, e2, e1, k _ _ (s.pop.pop.push fun F => q i j F)⟩
theorem op2_I {C : Int → Int → Prop} {g : Int → Int → V} {h : Int → Int → Option Int} (q : ∀ i j z, h i j = some z → C i j ∧ g i j = .int z) : Op2 K (rI C g) dI dI dI h := by
  intro i j z hz B F0 ρ L σ H vs ds v u Q s k
  have e1 := s.isInt
  have e2 := s.pop.isInt
  obtain ⟨c, e⟩ := q i j z hz
  refine ⟨i, j, e2, e1, c, ?_⟩
  rw [e]
  exact k _ _ s.pop.pop.int
theorem o_add : Op2 K (rI0 fun i j => .int (i + j)) dI dI dI (fun i j => some (i + j)) := op2_II fun i j F => .int _
theorem o_sub : Op2 K (rI0 fun i j => .int (i - j)) dI dI dI (fun i j => some (i - j)) := op2_II fun i j F => .int _
theorem smallI_iff {i : Int} : smallI i = true ↔ -(2 ^ 64) < i ∧ i < 2 ^ 64 := by
  unfold smallI
  rw [Bool.and_eq_true, decide_eq_true_eq, decide_eq_true_eq]
  exact Iff.rfl
theorem o_mul : Op2 K (rI CMul fun i j => .int (i * j)) dI dI dI mulO := op2_I fun i j z h => by
  unfold mulO at h
  split at h
  · rename_i c
    rw [Bool.or_eq_true, smallI_iff, smallI_iff] at c
    cases h
    exact ⟨c, rfl⟩
  · cases h
theorem o_fdiv : Op2 K (rI CDivN fun i j => .int (i.fdiv j)) dI dI dI fdivO := op2_I fun i j z h => by
  unfold fdivO at h
  split at h
  · rename_i c
    cases h
    exact ⟨c, rfl⟩
  · cases h
theorem o_fmod : Op2 K (rI (fun _ j => j ≠ 0) fun i j => .int (i.fmod j)) dI dI dI fmodO := op2_I fun i j z h => by
  unfold fmodO at h
  split at h
  · rename_i c
    cases h
    exact ⟨c, rfl⟩
  · cases h
theorem shiftOk_iff {i j : Int} (h : shiftOk i j = true) : CPow i j := by
  unfold shiftOk at h
  simp only [Bool.and_eq_true, decide_eq_true_eq] at h
  exact ⟨h.1.1, h.1.2, h.2⟩
theorem o_shl : Op2 K (rI CPow fun i j => .int (i * 2 ^ j.toNat)) dI dI dI shlO := op2_I fun i j z h => by
  unfold shlO at h
  split at h
  · rename_i c
    cases h
    exact ⟨shiftOk_iff c, rfl⟩
  · cases h
theorem o_pow : Op2 K (rI CPow fun i j => .int (i ^ j.toNat)) dI dI dI powO := op2_I fun i j z h => by
  unfold powO at h
  split at h
  · rename_i c
    cases h
    exact ⟨shiftOk_iff c, rfl⟩
  · cases h
theorem o_shr : Op2 K (rI (fun _ j => 0 ≤ j) fun i j => .int (i / 2 ^ j.toNat)) dI dI dI shrO := op2_I fun i j z h => by
  unfold shrO at h
  split at h
  · rename_i c
    cases h
    exact ⟨c, rfl⟩
  · cases h
theorem o_and : Op2 K (rI0 fun i j => .int (Builtin.bitAnd i j)) dI dI dI (fun i j => some (bAnd i j)) := op2_II fun i j F => .int _
theorem o_or : Op2 K (rI0 fun i j => .int (Builtin.bitOr i j)) dI dI dI (fun i j => some (bOr i j)) := op2_II fun i j F => .int _
theorem o_xor : Op2 K (rI0 fun i j => .int (Builtin.bitXor i j)) dI dI dI (fun i j => some (bXor i j)) := op2_II fun i j F => .int _
theorem o_lt : Op2 K (rI0 fun i j => .bl (decide (i < j))) dI dI dB (fun i j => some (decide (i < j))) := op2_II fun i j F => .bl _
theorem o_le : Op2 K (rI0 fun i j => .bl (decide (i ≤ j))) dI dI dB (fun i j => some (decide (i ≤ j))) := op2_II fun i j F => .bl _
theorem o_gt : Op2 K (rI0 fun i j => .bl (decide (j < i))) dI dI dB (fun i j => some (decide (j < i))) := op2_II fun i j F => .bl _
theorem o_ge : Op2 K (rI0 fun i j => .bl (decide (j ≤ i))) dI dI dB (fun i j => some (decide (j ≤ i))) := op2_II fun i j F => .bl _
/-- == of data, at any depth -/
theorem o_eqD [DecidableEq α] {n : Nat} {d : α → PyData} (h : Lw n d) (hn : n ≤ 64 := by decide) : Op2 K (rEqD K) d d dB (fun a b => some (decide (a = b))) := by
  intro a b z hz B F0 ρ L σ H vs ds v u Q s k
  cases hz
  obtain ⟨F, ok, sl, sv⟩ := id s
  cases sv with
  | cons r1 t =>
    cases t with
    | cons r2 t =>
      refine ⟨d a, d b, Rp.dp ok.le _ _ r2, Rp.dp ok.le _ _ r1, h.shaped hn a, h.shaped hn b, ?_⟩
      rw [h.eqv]
      exact k _ _ s.pop.pop.bl
theorem o_neD [DecidableEq α] {n : Nat} {d : α → PyData} (h : Lw n d) (hn : n ≤ 64 := by decide) : Op2 K (rNeD K) d d dB (fun a b => some (!decide (a = b))) := by
  intro a b z hz B F0 ρ L σ H vs ds v u Q s k
  cases hz
  obtain ⟨F, ok, sl, sv⟩ := id s
  cases sv with
  | cons r1 t =>
    cases t with
    | cons r2 t =>
      refine ⟨d a, d b, Rp.dp ok.le _ _ r2, Rp.dp ok.le _ _ r1, h.shaped hn a, h.shaped hn b, ?_⟩
      rw [h.eqv]
      exact k _ _ s.pop.pop.bl
theorem o_eqI : Op2 K rEq dI dI dB (fun a b => some (decide (a = b))) := by
  intro a b z hz B F0 ρ L σ H vs ds v u Q s k
  cases hz
  have e1 := s.isInt
  have e2 := s.pop.isInt
  subst e1 e2
  refine ⟨rfl, ?_⟩
  have : decide (V.int a = V.int b) = decide (a = b) := by by_cases q : a = b <;> simp [q]
  rw [this]
  exact k _ _ s.pop.pop.bl
theorem o_neI : Op2 K rNe dI dI dB (fun a b => some (!decide (a = b))) := by
  intro a b z hz B F0 ρ L σ H vs ds v u Q s k
  cases hz
  have e1 := s.isInt
  have e2 := s.pop.isInt
  subst e1 e2
  refine ⟨rfl, ?_⟩
  have : decide (V.int a = V.int b) = decide (a = b) := by by_cases q : a = b <;> simp [q]
  rw [this]
  exact k _ _ s.pop.pop.bl
theorem o_eqB : Op2 K rEq dB dB dB (fun a b => some (decide (a = b))) := by
  intro a b z hz B F0 ρ L σ H vs ds v u Q s k
  cases hz
  have e1 := s.isBl
  have e2 := s.pop.isBl
  subst e1 e2
  refine ⟨rfl, ?_⟩
  have : decide (V.bl a = V.bl b) = decide (a = b) := by by_cases q : a = b <;> simp [q]
  rw [this]
  exact k _ _ s.pop.pop.bl
theorem o_neB : Op2 K rNe dB dB dB (fun a b => some (!decide (a = b))) := by
  intro a b z hz B F0 ρ L σ H vs ds v u Q s k
  cases hz
  have e1 := s.isBl
  have e2 := s.pop.isBl
  subst e1 e2
  refine ⟨rfl, ?_⟩
  have : decide (V.bl a = V.bl b) = decide (a = b) := by by_cases q : a = b <;> simp [q]
  rw [this]
  exact k _ _ s.pop.pop.bl
theorem o_isB : Op2 K rIsB dB dB dB (fun a b => some (decide (a = b))) := by
  intro a b z hz B F0 ρ L σ H vs ds v u Q s k
  cases hz
  exact ⟨a, b, s.pop.isBl, s.isBl, k _ _ s.pop.pop.bl⟩
theorem o_isNotB : Op2 K rNotB dB dB dB (fun a b => some (!decide (a = b))) := by
  intro a b z hz B F0 ρ L σ H vs ds v u Q s k
  cases hz
  exact ⟨a, b, s.pop.isBl, s.isBl, k _ _ s.pop.pop.bl⟩
/-- is None -/
theorem non_iff {F : Hp} {v : V} {d : α → PyData} (h : ∀ a, d a ≠ .none) {o : Option α} (r : Rp F v (dO d o)) : decide (v = .non) = o.isNone := by
  cases o with
  | none =>
    have r' : Rp F v .none := r
    cases r'
    rfl
  | some x =>
    have r' : Rp F v (d x) := r
    have n : v ≠ .non := by
      rintro rfl
      generalize hd : d x = y at r'
      cases r'
      exact h x hd
    simp [n]
theorem o_isN {d : α → PyData} (h : ∀ a, d a ≠ .none) : Op2 K (fun x y H Q => y = .non ∧ Q (.bl (decide (x = .non))) H) (dO d) dN dB (fun a _ => some a.isNone) := by
  intro a b z hz B F0 ρ L σ H vs ds v u Q s k
  cases hz
  refine ⟨s.isNon, ?_⟩
  obtain ⟨F, ok, sl, sv⟩ := id s.pop
  cases sv with
  | cons r t =>
    rw [non_iff h r]
    exact k _ _ s.pop.pop.bl
theorem o_notN {d : α → PyData} (h : ∀ a, d a ≠ .none) : Op2 K (fun x y H Q => y = .non ∧ Q (.bl (!decide (x = .non))) H) (dO d) dN dB (fun a _ => some a.isSome) := by
  intro a b z hz B F0 ρ L σ H vs ds v u Q s k
  cases hz
  refine ⟨s.isNon, ?_⟩
  obtain ⟨F, ok, sl, sv⟩ := id s.pop
  cases sv with
  | cons r t =>
    rw [non_iff h r]
    have : (!a.isNone) = a.isSome := by cases a <;> rfl
    rw [this]
    exact k _ _ s.pop.pop.bl
end

section
variable {X : Cx} {α β γ δ W : Type} {e a b c : Expr} {ρ : Env} {L : Ow} {pos : Pos} {d : α → PyData} {d' : β → PyData} {f : γ → PyData} {oa : Option α} {ob : Option β}
/-! ### comparisons, tests -/
theorem x_cmp {op : CmpOp} {r : R2} {g : α → β → Option γ} (ho : OpR X (compareOp op) r) (hg : Op2 X.K r d d' f g) (ha : EX X d a ρ L oa) (hb : EX X d' b ρ L ob) (hm : behindInMarks op b = false := by exact nomark _) :
    EX X f (.Compare a [op] [b] pos) ρ L (oa.bind fun x => ob.bind fun y => g x y) := by
  obtain ⟨ta, pa, ha⟩ := ha
  obtain ⟨tb, pb, hb⟩ := hb
  refine ⟨_, pe_cmpR ho pa pb hm, fun z hz B F0 σ H vs ds Q s k => ?_⟩
  obtain ⟨x, hx, hz⟩ := Option.bind_eq_some_iff.mp hz
  obtain ⟨y, hy, hz⟩ := Option.bind_eq_some_iff.mp hz
  exact ha x hx B F0 σ H vs ds _ s fun v H1 s1 => hb y hy B F0 σ H1 _ _ _ s1 fun u H2 s2 => hg x y z hz B F0 ρ L σ H2 vs ds v u Q s2 k
/-- a test by its value: the forms of isTrue that are plain -/
theorem t_val {o : Option Bool} (h : EX X dB e ρ L o) (he : ∀ whole, isTrue e X.env whole = (do let v ← whole; standAt e.pos; holding [v] (truthy v)) := by intro _; rfl) : TX X e ρ L o := by
  obtain ⟨t, p, h⟩ := h
  exact ⟨_, pt_val p he, fun b hb B F0 σ H vs ds Q s k => h b hb B F0 σ H vs ds _ s fun v H' s' => ⟨b, s'.isBl, k H' s'.pop⟩⟩
theorem t_cmp {op : CmpOp} {r : R2} {g : α → β → Option Bool} (ho : OpR X (compareOp op) r) (hg : Op2 X.K r d d' dB g) (ha : EX X d a ρ L oa) (hb : EX X d' b ρ L ob) (hm : behindInMarks op b = false := by exact nomark _) :
    TX X (.Compare a [op] [b] pos) ρ L (oa.bind fun x => ob.bind fun y => g x y) := by
  obtain ⟨ta, pa, ha⟩ := ha
  obtain ⟨tb, pb, hb⟩ := hb
  refine ⟨_, pt_cmpR ho pa pb hm, fun z hz B F0 σ H vs ds Q s k => ?_⟩
  obtain ⟨x, hx, hz⟩ := Option.bind_eq_some_iff.mp hz
  obtain ⟨y, hy, hz⟩ := Option.bind_eq_some_iff.mp hz
  exact ha x hx B F0 σ H vs ds _ s fun v H1 s1 => hb y hy B F0 σ H1 _ _ _ s1 fun u H2 s2 => hg x y z hz B F0 ρ L σ H2 vs ds v u _ s2 fun w H3 s3 => ⟨z, s3.isBl, k H3 s3.pop⟩
/-- a < b < c -/
theorem x_chain {op op' : CmpOp} {r r' : R2} {g : α → β → Option Bool} {g' : β → γ → Option Bool} {oc : Option γ} (ho : OpR X (compareOp op) r) (ho' : OpR X (compareOp op') r') (hg : Op2 X.K r d d' dB g) (hg' : Op2 X.K r' d' f dB g')
    (ha : EX X d a ρ L oa) (hb : EX X d' b ρ L ob) (hc : EX X f c ρ L oc) (p : OpR X (compareOp op) r → OpR X (compareOp op') r' → ∀ {ta tb tc}, PE X a ta → PE X b tb → PE X c tc → PE X (.Compare a [op, op'] [b, c] pos) (tChain r r' ta tb tc) := by intro ho ho' _ _ _ h1 h2 h3; exact pe_chain ho ho' h1 h2 h3) :
    EX X dB (.Compare a [op, op'] [b, c] pos) ρ L (oa.bind fun x => ob.bind fun y => (g x y).bind fun k => if k then oc.bind fun z => g' y z else some false) := by
  obtain ⟨ta, pa, ha⟩ := ha
  obtain ⟨tb, pb, hb⟩ := hb
  obtain ⟨tc, pc, hc⟩ := hc
  refine ⟨_, p ho ho' pa pb pc, fun z hz B F0 σ H vs ds Q s k => ?_⟩
  obtain ⟨x, hx, hz⟩ := Option.bind_eq_some_iff.mp hz
  obtain ⟨y, hy, hz⟩ := Option.bind_eq_some_iff.mp hz
  obtain ⟨q, hq, hz⟩ := Option.bind_eq_some_iff.mp hz
  refine ha x hx B F0 σ H vs ds _ s fun v H1 s1 => hb y hy B F0 σ H1 _ _ _ s1 fun u H2 s2 => ?_
  have s2' : St X.K B F0 ρ L σ H2 (u :: v :: u :: vs) (.dat (d' y) :: .dat (d x) :: .dat (d' y) :: ds) := s2.stack fun F r => by
    cases r with | cons r1 t => cases t with | cons r2 t => exact .cons r1 (.cons r2 (.cons r1 t))
  refine hg x y q hq B F0 ρ L σ H2 _ _ v u _ s2' fun w H3 s3 => ⟨q, s3.isBl, ?_⟩
  cases q with
  | true =>
    obtain ⟨z2, hz2, hz⟩ := Option.bind_eq_some_iff.mp hz
    exact iteT (hc z2 hz2 B F0 σ H3 _ _ _ s3.pop fun w2 H4 s4 => hg' y z2 z hz B F0 ρ L σ H4 vs ds u w2 Q s4 k)
  | false =>
    have e : false = z := by simpa using hz
    subst e
    exact iteF (k _ _ (s3.pop.pop.bl))
theorem t_not {o : Option Bool} (h : TX X e ρ L o) : TX X (.UnaryOp .Not e pos) ρ L (o.map (!·)) := by
  obtain ⟨t, p, h⟩ := h
  refine ⟨_, pt_not p, fun b hb B F0 σ H vs ds Q s k => ?_⟩
  obtain ⟨x, hx, rfl⟩ := Option.map_eq_some_iff.mp hb
  exact h x hx B F0 σ H vs ds _ s k
theorem w_and1 {o : Option Bool} (h : TX X e ρ L o) : WX X (.BoolOp .And [e] pos) ρ L o := by
  obtain ⟨t, p, h⟩ := h
  exact ⟨_, pw_and1 p, h⟩
theorem w_or1 {o : Option Bool} (h : TX X e ρ L o) : WX X (.BoolOp .Or [e] pos) ρ L o := by
  obtain ⟨t, p, h⟩ := h
  exact ⟨_, pw_or1 p, h⟩
theorem w_and {o o' : Option Bool} {es : List Expr} (h : TX X a ρ L o) (h' : WX X (.BoolOp .And (b :: es) pos) ρ L o') : WX X (.BoolOp .And (a :: b :: es) pos) ρ L (o.bind fun x => if x then o' else some false) := by
  obtain ⟨t, p, h⟩ := h
  obtain ⟨t', p', h'⟩ := h'
  refine ⟨_, pw_and p p', fun z hz B F0 σ H vs ds Q s k => ?_⟩
  obtain ⟨x, hx, hz⟩ := Option.bind_eq_some_iff.mp hz
  refine h x hx B F0 σ H vs ds _ s fun H1 s1 => ?_
  cases x with
  | true => exact iteT (h' z (by simpa using hz) B F0 σ H1 vs ds Q s1 k)
  | false =>
    have e : false = z := by simpa using hz
    subst e
    exact iteF (k _ s1)
theorem w_or {o o' : Option Bool} {es : List Expr} (h : TX X a ρ L o) (h' : WX X (.BoolOp .Or (b :: es) pos) ρ L o') : WX X (.BoolOp .Or (a :: b :: es) pos) ρ L (o.bind fun x => if x then some true else o') := by
  obtain ⟨t, p, h⟩ := h
  obtain ⟨t', p', h'⟩ := h'
  refine ⟨_, pw_or p p', fun z hz B F0 σ H vs ds Q s k => ?_⟩
  obtain ⟨x, hx, hz⟩ := Option.bind_eq_some_iff.mp hz
  refine h x hx B F0 σ H vs ds _ s fun H1 s1 => ?_
  cases x with
  | false => exact iteF (h' z (by simpa using hz) B F0 σ H1 vs ds Q s1 k)
  | true =>
    have e : true = z := by simpa using hz
    subst e
    exact iteT (k _ s1)
theorem WX.t {o : Option Bool} (h : WX X e ρ L o) : TX X e ρ L o := by
  obtain ⟨t, p, h⟩ := h
  exact ⟨_, p.pt, h⟩
/-- and, or, not as values -/
theorem x_one {op} {o : Option α} (h : EX X d e ρ L o) : EX X d (.BoolOp op [e] pos) ρ L o := by
  obtain ⟨t, p, h⟩ := h
  exact ⟨_, pe_one p, h⟩
theorem x_and {o o' : Option Bool} {es : List Expr} (h : EX X dB a ρ L o) (h' : EX X dB (.BoolOp .And (b :: es) pos) ρ L o') : EX X dB (.BoolOp .And (a :: b :: es) pos) ρ L (o.bind fun x => if x then o' else some false) := by
  obtain ⟨t, p, h⟩ := h
  obtain ⟨t', p', h'⟩ := h'
  refine ⟨_, pe_and p p', fun z hz B F0 σ H vs ds Q s k => ?_⟩
  obtain ⟨x, hx, hz⟩ := Option.bind_eq_some_iff.mp hz
  refine h x hx B F0 σ H vs ds _ s fun v H1 s1 => ⟨x, s1.isBl, ?_⟩
  cases x with
  | true => exact iteT (h' z (by simpa using hz) B F0 σ H1 vs ds Q s1.pop k)
  | false =>
    have e : false = z := by simpa using hz
    subst e
    exact iteF (k _ _ s1.pop.bl)
theorem x_or {o o' : Option Bool} {es : List Expr} (h : EX X dB a ρ L o) (h' : EX X dB (.BoolOp .Or (b :: es) pos) ρ L o') : EX X dB (.BoolOp .Or (a :: b :: es) pos) ρ L (o.bind fun x => if x then some true else o') := by
  obtain ⟨t, p, h⟩ := h
  obtain ⟨t', p', h'⟩ := h'
  refine ⟨_, pe_or p p', fun z hz B F0 σ H vs ds Q s k => ?_⟩
  obtain ⟨x, hx, hz⟩ := Option.bind_eq_some_iff.mp hz
  refine h x hx B F0 σ H vs ds _ s fun v H1 s1 => ⟨x, s1.isBl, ?_⟩
  cases x with
  | false => exact iteF (h' z (by simpa using hz) B F0 σ H1 vs ds Q s1.pop k)
  | true =>
    have e : true = z := by simpa using hz
    subst e
    exact iteT (k _ _ s1.pop.bl)
theorem x_not {o : Option Bool} (h : EX X dB e ρ L o) : EX X dB (.UnaryOp .Not e pos) ρ L (o.map (!·)) := by
  obtain ⟨t, p, h⟩ := h
  refine ⟨_, pe_not p, fun b hb B F0 σ H vs ds Q s k => ?_⟩
  obtain ⟨x, hx, rfl⟩ := Option.map_eq_some_iff.mp hb
  exact h x hx B F0 σ H vs ds _ s fun v H1 s1 => ⟨x, s1.isBl, k _ _ s1.pop.bl⟩
theorem x_neg {o : Option Int} (h : EX X dI e ρ L o) : EX X dI (.UnaryOp .USub e pos) ρ L (o.map (-·)) := by
  obtain ⟨t, p, h⟩ := h
  refine ⟨_, pe_un un_neg p, fun b hb B F0 σ H vs ds Q s k => ?_⟩
  obtain ⟨x, hx, rfl⟩ := Option.map_eq_some_iff.mp hb
  exact h x hx B F0 σ H vs ds _ s fun v H1 s1 => ⟨x, s1.isInt, k _ _ s1.pop.int⟩
theorem x_if {oc : Option Bool} {o o' : Option α} (hc : TX X c ρ L oc) (ha : EX X d a ρ L o) (hb : EX X d b ρ L o') : EX X d (.IfExp c a b pos) ρ L (oc.bind fun x => if x then o else o') := by
  obtain ⟨t, p, h⟩ := hc
  obtain ⟨ta, pa, ha⟩ := ha
  obtain ⟨tb, pb, hb⟩ := hb
  refine ⟨_, pe_ifExp p pa pb, fun z hz B F0 σ H vs ds Q s k => ?_⟩
  obtain ⟨x, hx, hz⟩ := Option.bind_eq_some_iff.mp hz
  refine h x hx B F0 σ H vs ds _ s fun H1 s1 => ?_
  cases x with
  | true => exact iteT (ha z (by simpa using hz) B F0 σ H1 vs ds Q s1 k)
  | false => exact iteF (hb z (by simpa using hz) B F0 σ H1 vs ds Q s1 k)
end
end Mir
namespace Mir
open PySem L2

/-! ### arguments, displays -/
section
variable {K : PySem.W.Frag} {B F0 H : Hp} {L : Ow} {ρ : Env} {σ : L2.St} {vs us : List V} {ds es : List Sl}
/-- the pushed ones in their order -/
theorem St.args {x : V} {s : Sl} (h : St K B F0 ρ L σ H (us ++ x :: vs) (es ++ s :: ds)) (e : us.length = es.length) : St K B F0 ρ L σ H ((x :: us) ++ vs) ((s :: es) ++ ds) := h.stack fun F q => by
  obtain ⟨a, b⟩ := pr_split e q
  cases b with
  | cons r t => exact .cons r (pr_app a t)
end
section
variable {X : Cx} {α β γ δ W : Type} {e a b c : Expr} {es : List Expr} {ρ : Env} {L : Ow} {pos : Pos} {d : α → PyData} {d' : β → PyData} {f : γ → PyData} {g : δ → PyData} {oa : Option α} {ob : Option β} {oc : Option γ} {od : Option δ}
theorem a_nil : AX X (fun _ : Unit => []) [] ρ L (some ()) := ⟨_, pa_nil, fun z hz B F0 σ H vs ds Q s k => by cases hz; exact k [] H rfl s⟩
theorem a_cons {enc : β → List Sl} (ha : EX X d e ρ L oa) (hr : AX X enc es ρ L ob) (hs : starEach (e :: es) X.env = (false, eval e X.env) :: starEach es X.env := by rfl) :
    AX X (fun p : α × β => Sl.dat (d p.1) :: enc p.2) (e :: es) ρ L (oa.bind fun x => ob.bind fun y => some (x, y)) := by
  obtain ⟨t, p, h⟩ := ha
  obtain ⟨t', p', h'⟩ := hr
  refine ⟨_, pa_cons p p' hs, fun z hz B F0 σ H vs ds Q s k => ?_⟩
  obtain ⟨x, hx, hz⟩ := Option.bind_eq_some_iff.mp hz
  obtain ⟨y, hy, hz⟩ := Option.bind_eq_some_iff.mp hz
  cases hz
  refine h x hx B F0 σ H vs ds _ s fun v H1 s1 => h' y hy B F0 σ H1 _ _ _ s1 fun us H2 e2 s2 => ?_
  exact k (v :: us) H2 (by simp [e2]) (s2.args e2)
/-- an argument of any slot -/
theorem a_sl {enc : β → List Sl} {sl : Sl} (ha : ES X e ρ L (some sl)) (hr : AX X enc es ρ L ob) (hs : starEach (e :: es) X.env = (false, eval e X.env) :: starEach es X.env := by rfl) :
    AX X (fun p : β => sl :: enc p) (e :: es) ρ L ob := by
  obtain ⟨t, p, h⟩ := ha
  obtain ⟨t', p', h'⟩ := hr
  refine ⟨_, pa_cons p p' hs, fun z hz B F0 σ H vs ds Q s k => ?_⟩
  refine h sl rfl B F0 σ H vs ds _ s fun v H1 s1 => h' z hz B F0 σ H1 _ _ _ s1 fun us H2 e2 s2 => ?_
  exact k (v :: us) H2 (by simp [e2]) (s2.args e2)
/-- arguments of one kind -/
def encH (d : α → PyData) (xs : List α) : List Sl := (xs.map d).map .dat
theorem ah_nil : AX X (encH d) [] ρ L (some []) := ⟨_, pa_nil, fun z hz B F0 σ H vs ds Q s k => by cases hz; exact k [] H rfl s⟩
theorem ah_cons {os : Option (List α)} (ha : EX X d e ρ L oa) (hr : AX X (encH d) es ρ L os) (hs : starEach (e :: es) X.env = (false, eval e X.env) :: starEach es X.env := by rfl) :
    AX X (encH d) (e :: es) ρ L (oa.bind fun x => os.bind fun y => some (x :: y)) := by
  obtain ⟨t, p, h⟩ := ha
  obtain ⟨t', p', h'⟩ := hr
  refine ⟨_, pa_cons p p' hs, fun z hz B F0 σ H vs ds Q s k => ?_⟩
  obtain ⟨x, hx, hz⟩ := Option.bind_eq_some_iff.mp hz
  obtain ⟨y, hy, hz⟩ := Option.bind_eq_some_iff.mp hz
  cases hz
  refine h x hx B F0 σ H vs ds _ s fun v H1 s1 => h' y hy B F0 σ H1 _ _ _ s1 fun us H2 e2 s2 => ?_
  exact k (v :: us) H2 (by rw [List.length_cons, e2]; rfl) (s2.args e2)
/-- (a, b, ..) in general -/
theorem x_tupG {ob : Option β} {k} {enc : β → List Sl} (h : AX X enc es ρ L ob) (g : β → α) (xs : β → List PyData) (q1 : ∀ b, enc b = (xs b).map .dat) (q2 : ∀ b, d (g b) = .tuple (xs b)) (q3 : ∀ b, (xs b).length ≤ sizeLine) :
    EX X d (.Tuple es k pos) ρ L (ob.map g) := by
  obtain ⟨t, p, h⟩ := h
  refine ⟨_, pe_tup p, fun z hz B F0 σ H vs ds Q s k => ?_⟩
  obtain ⟨y, hy, rfl⟩ := Option.map_eq_some_iff.mp hz
  refine h y hy B F0 σ H vs ds _ s fun us H1 e1 s1 => ?_
  rw [q1] at e1 s1
  have e2 : us.length = (xs y).length := by rw [e1, List.length_map]
  have z : us.length ≤ sizeLine := by rw [e2]; exact q3 y
  exact ⟨z, fun p hp => k _ _ (by rw [q2]; exact s1.newTup e2 hp z)⟩
theorem sz_of {n : Nat} (h : n ≤ 1000) : n ≤ sizeLine := Nat.le_trans h (by decide)
theorem x_pair {k} (ha : EX X d a ρ L oa) (hb : EX X d' b ρ L ob) (h1 : starEach [a, b] X.env = (false, eval a X.env) :: starEach [b] X.env := by rfl) (h2 : starEach [b] X.env = (false, eval b X.env) :: starEach [] X.env := by rfl) :
    EX X (dP d d') (.Tuple [a, b] k pos) ρ L (oa.bind fun x => ob.bind fun y => some (x, y)) := by
  refine (x_tupG (d := dP d d') (a_cons ha (a_cons hb a_nil h2) h1) (fun p => (p.1, p.2.1)) (fun p => [d p.1, d' p.2.1]) (fun _ => rfl) (fun _ => rfl) (fun _ => sz_of (by decide : 2 ≤ 1000))).conv ?_
  cases oa <;> cases ob <;> rfl
theorem x_tup3 {k} (ha : EX X d a ρ L oa) (hb : EX X d' b ρ L ob) (hc : EX X f c ρ L oc) (h1 : starEach [a, b, c] X.env = (false, eval a X.env) :: starEach [b, c] X.env := by rfl) (h2 : starEach [b, c] X.env = (false, eval b X.env) :: starEach [c] X.env := by rfl)
    (h3 : starEach [c] X.env = (false, eval c X.env) :: starEach [] X.env := by rfl) :
    EX X (dP3 d d' f) (.Tuple [a, b, c] k pos) ρ L (oa.bind fun x => ob.bind fun y => oc.bind fun z => some (x, y, z)) := by
  refine (x_tupG (d := dP3 d d' f) (a_cons ha (a_cons hb (a_cons hc a_nil h3) h2) h1) (fun p => (p.1, p.2.1, p.2.2.1)) (fun p => [d p.1, d' p.2.1, f p.2.2.1]) (fun _ => rfl) (fun _ => rfl) (fun _ => sz_of (by decide : 3 ≤ 1000))).conv ?_
  cases oa <;> cases ob <;> cases oc <;> rfl
theorem x_tup4 {k} {e4 : Expr} (ha : EX X d a ρ L oa) (hb : EX X d' b ρ L ob) (hc : EX X f c ρ L oc) (hd : EX X g e4 ρ L od) (h1 : starEach [a, b, c, e4] X.env = (false, eval a X.env) :: starEach [b, c, e4] X.env := by rfl) (h2 : starEach [b, c, e4] X.env = (false, eval b X.env) :: starEach [c, e4] X.env := by rfl)
    (h3 : starEach [c, e4] X.env = (false, eval c X.env) :: starEach [e4] X.env := by rfl) (h4 : starEach [e4] X.env = (false, eval e4 X.env) :: starEach [] X.env := by rfl) :
    EX X (dP4 d d' f g) (.Tuple [a, b, c, e4] k pos) ρ L (oa.bind fun x => ob.bind fun y => oc.bind fun z => od.bind fun w => some (x, y, z, w)) := by
  refine (x_tupG (d := dP4 d d' f g) (a_cons ha (a_cons hb (a_cons hc (a_cons hd a_nil h4) h3) h2) h1) (fun p => (p.1, p.2.1, p.2.2.1, p.2.2.2.1)) (fun p => [d p.1, d' p.2.1, f p.2.2.1, g p.2.2.2.1]) (fun _ => rfl) (fun _ => rfl) (fun _ => sz_of (by decide : 4 ≤ 1000))).conv ?_
  cases oa <;> cases ob <;> cases oc <;> cases od <;> rfl
/-- a display of one kind: a tuple, a list; its length below a thousand -/
theorem x_tupH {k} {os : Option (List α)} (h : AX X (encH d) es ρ L os) (hz : ∀ xs, os = some xs → xs.length ≤ 1000) : EX X (dT d) (.Tuple es k pos) ρ L os := by
  obtain ⟨t, p, h⟩ := h
  refine ⟨_, pe_tup p, fun xs hx B F0 σ H vs ds Q s k => ?_⟩
  refine h xs hx B F0 σ H vs ds _ s fun us H1 e1 s1 => ?_
  have e2 : us.length = (xs.map d).length := by rw [e1]; exact List.length_map ..
  have z : us.length ≤ sizeLine := by rw [e2, List.length_map]; exact sz_of (hz xs hx)
  exact ⟨z, fun p hp => k _ _ (s1.newTup e2 hp z)⟩
theorem n_lst {os : Option (List α)} (h : AX X (encH d) es ρ L os) (hz : ∀ xs, os = some xs → xs.length ≤ 1000) : EN X d (.List es pos) ρ L os := by
  obtain ⟨t, p, h⟩ := h
  refine ⟨_, pe_lst p, fun xs hx B F0 σ H vs ds Q s k => ?_⟩
  refine h xs hx B F0 σ H vs ds _ s fun us H1 e1 s1 => ?_
  have z : us.length ≤ sizeLine := by rw [e1]; show ((xs.map d).map Sl.dat).length ≤ sizeLine; rw [List.length_map, List.length_map]; exact sz_of (hz xs hx)
  exact ⟨z, fun p hp => k _ _ (s1.newLst e1 hp z)⟩
/-- a new list as data -/
theorem EN.x {o : Option (List α)} (h : EN X d e ρ L o) : EX X (dL d) e ρ L o := by
  obtain ⟨t, p, h⟩ := h
  refine ⟨t, p, fun xs hx B F0 σ H vs ds Q s k => h xs hx B F0 σ H vs ds _ s fun p H1 s1 => k _ _ ?_⟩
  have s2 := St.frz (L2 := []) s1
  rw [List.append_nil] at s2
  exact s2
theorem EN.o {o : Option (List α)} (h : EN X d e ρ L o) : EO X (fun xs => OD.lst ((xs.map d).map .dat)) e ρ L o := h

/-! ### sequences -/
theorem EX.ql {o : Option (List α)} (h : EX X (dL d) e ρ L o) : QX X d e ρ L o := by
  obtain ⟨t, p, h⟩ := h
  exact ⟨t, p, fun xs hx B F0 σ H vs ds Q s k => h xs hx B F0 σ H vs ds _ s fun v H1 s1 => k v _ H1 (.lst _) s1⟩
theorem EX.qt {o : Option (List α)} (h : EX X (dT d) e ρ L o) : QX X d e ρ L o := by
  obtain ⟨t, p, h⟩ := h
  exact ⟨t, p, fun xs hx B F0 σ H vs ds Q s k => h xs hx B F0 σ H vs ds _ s fun v H1 s1 => k v _ H1 (.tup _) s1⟩
theorem EN.q {o : Option (List α)} (h : EN X d e ρ L o) : QX X d e ρ L o := h.x.ql
theorem ES.q {p : Addr} {xs : List α} (h : ES X e ρ L (some (.ptr p))) (m : (p, OD.lst ((xs.map d).map .dat)) ∈ L) : QX X d e ρ L (some xs) := by
  obtain ⟨t, p, h⟩ := h
  exact ⟨t, p, fun ys hy B F0 σ H vs ds Q s k => by cases hy; exact h _ rfl B F0 σ H vs ds _ s fun v H1 s1 => k v _ H1 (.own m) s1⟩
theorem ES.qs {ns : List Int} (h : ES X e ρ L (some (.scr ns))) : QX X dI e ρ L (some ns) := by
  obtain ⟨t, p, h⟩ := h
  exact ⟨t, p, fun ys hy B F0 σ H vs ds Q s k => by cases hy; exact h _ rfl B F0 σ H vs ds _ s fun v H1 s1 => k v _ H1 (.scr _) s1⟩
theorem QX.conv {o o' : Option (List α)} (h : QX X d e ρ L o) (q : o = o') : QX X d e ρ L o' := q ▸ h
/-- len(xs) -/
theorem x_len {o : Option (List α)} {p : Pos} (h : QX X d e ρ L o) (hm : X.mg "len" = none) (hs : starEach [e] X.env = (false, eval e X.env) :: starEach [] X.env := by rfl)
    (hh : X.mg "len" = none → ∀ {ta}, PE X e ta → PE X (.Call (.Name "len" p) [e] [] pos) (tCB (fun xs H Q => ∃ p ys, xs = [.ref p] ∧ (SqL X.K H p ys ∨ SqT X.K H p ys) ∧ Q (.int ys.length) H) (tCons ta tNil)) := by intro hm _ h; exact pe_callB call_len_seq (by rfl) hm PySem.boot_len (pa_cons h pa_nil)) :
    EX X dI (.Call (.Name "len" p) [e] [] pos) ρ L (o.map fun xs => (xs.length : Int)) := by
  obtain ⟨t, p, h⟩ := h
  refine ⟨_, hh hm p, fun z hz B F0 σ H vs ds Q s k => ?_⟩
  obtain ⟨xs, hx, rfl⟩ := Option.map_eq_some_iff.mp hz
  refine h xs hx B F0 σ H vs ds _ s fun v sl H1 q s1 => ?_
  obtain ⟨a, us, rfl, h1, h2, h3⟩ := s1.seq q
  refine ⟨a, us, rfl, h1, ?_⟩
  rw [h2, List.length_map]
  exact k _ _ s1.pop.int
theorem atI_map {α β : Type} (f : α → β) (xs : List α) (i : Int) : atI (xs.map f) i = (atI xs i).map f := by
  unfold atI
  rw [List.length_map]
  cases ixN xs.length i with
  | none => rfl
  | some j => simp
theorem pr_atI {α β : Type} {R : α → β → Prop} {xs : List α} {ys : List β} {i : Int} {y : β} (h : Paired R xs ys) (e : atI ys i = some y) : ∃ x, atI xs i = some x ∧ R x y := by
  unfold atI at e ⊢
  rw [Paired.length h]
  obtain ⟨j, hj, e⟩ := Option.bind_eq_some_iff.mp e
  obtain ⟨x, h1, h2⟩ := pr_get h e
  exact ⟨x, by rw [hj]; exact h1, h2⟩
/-- xs[i] -/
theorem x_ix {o : Option (List α)} {i : Expr} {oi : Option Int} (h : QX X d e ρ L o) (hi : EX X dI i ρ L oi) (hs : PlainIx i := by intro _ _; rfl) : EX X d (.Subscript e i pos) ρ L (o.bind fun xs => oi.bind fun n => atO xs n) := by
  obtain ⟨t, p, h⟩ := h
  obtain ⟨t', p', h'⟩ := hi
  refine ⟨_, pe_ix ix_seq p p' hs, fun z hz B F0 σ H vs ds Q s k => ?_⟩
  obtain ⟨xs, hx, hz⟩ := Option.bind_eq_some_iff.mp hz
  obtain ⟨n, hn, hz⟩ := Option.bind_eq_some_iff.mp hz
  refine h xs hx B F0 σ H vs ds _ s fun v sl H1 q s1 => h' n hn B F0 σ H1 _ _ _ s1 fun u H2 s2 => ?_
  have eu := s2.isInt
  obtain ⟨a, us, rfl, h1, h2, h3⟩ := s2.pop.seq q
  have hz' : atI (xs.map d) n = some (d z) := by rw [atI_map, show atI xs n = some z from hz]; rfl
  obtain ⟨F, ok, sl', sv⟩ := h3
  obtain ⟨sv1, sv2⟩ := pr_split (by rw [List.length_map]; exact h2) sv
  obtain ⟨w, hw, r⟩ := pr_atI sv1 (show atI ((xs.map d).map Sl.dat) n = some (.dat (d z)) by rw [atI_map, hz']; rfl)
  have fin : Q w H2 := k w H2 ⟨F, ok, sl', .cons r (by cases sv2 with | cons _ t => exact t)⟩
  rcases h1 with h1 | h1
  · exact .inl ⟨a, us, n, w, rfl, eu, h1, hw, fin⟩
  · exact .inr (.inl ⟨a, us, n, w, rfl, eu, h1, hw, fin⟩)
/-- p[0], p[1] of a pair -/
theorem x_ixT {i : Int} {n : Nat} {j : Nat} {p2 : Pos} {o : Option α} {xs : α → List PyData} {g : α → β} {d' : β → PyData} (h : EX X d e ρ L o) (q1 : ∀ a, d a = .tuple (xs a)) (q2 : ∀ a, atI (xs a) i = some (d' (g a))) (hs : PlainIx (.Constant (.int i) j p2) := by intro _ _; rfl) :
    EX X d' (.Subscript e (.Constant (.int i) j p2) pos) ρ L (o.map g) := by
  obtain ⟨t, p, h⟩ := h
  refine ⟨_, pe_ix ix_tup p pe_int hs, fun z hz B F0 σ H vs ds Q s k => ?_⟩
  obtain ⟨x, hx, rfl⟩ := Option.map_eq_some_iff.mp hz
  refine h x hx B F0 σ H vs ds _ s fun v H1 s1 => ?_
  rw [q1] at s1
  obtain ⟨a, us, rfl, h1, h2, _, h3⟩ := s1.tup1
  obtain ⟨F, ok, sl', sv⟩ := h3
  obtain ⟨sv1, sv2⟩ := pr_split (by rw [List.length_map]; exact h2) sv
  obtain ⟨w, hw, r⟩ := pr_atI sv1 (show atI ((xs x).map Sl.dat) i = some (.dat (d' (g x))) by rw [atI_map, q2]; rfl)
  exact ⟨a, us, i, w, rfl, rfl, SqT.of h1, hw, k w H1 ⟨F, ok, sl', .cons r (by cases sv2 with | cons _ t => exact t)⟩⟩
/-- list(xs) -/
theorem n_list {o : Option (List α)} {p : Pos} (h : QX X d e ρ L o) (hm : X.mg "list" = none) (hs : starEach [e] X.env = (false, eval e X.env) :: starEach [] X.env := by rfl)
    (hh : X.mg "list" = none → ∀ {ta}, PE X e ta → PE X (.Call (.Name "list" p) [e] [] pos) (tCB (fun xs H Q => ∃ p ys, xs = [.ref p] ∧ (SqL X.K H p ys ∨ SqT X.K H p ys) ∧ ∀ l, H l = none → Q (.ref l) (upd H l (.lst ys))) (tCons ta tNil)) := by intro hm _ h; exact pe_callTy call_list_of (by rfl) hm PyProof.Rows.boot_list (pa_cons h pa_nil)) :
    EN X d (.Call (.Name "list" p) [e] [] pos) ρ L (o.bind fun xs => szO xs.length xs) := by
  obtain ⟨t, p, h⟩ := h
  refine ⟨_, hh hm p, fun z hz B F0 σ H vs ds Q s k => ?_⟩
  obtain ⟨xs, hx, hz⟩ := Option.bind_eq_some_iff.mp hz
  unfold szO at hz
  split at hz
  · rename_i hl
    have e : xs = z := by simpa using hz
    subst e
    refine h xs hx B F0 σ H vs ds _ s fun v sl H1 q s1 => ?_
    obtain ⟨a, us, rfl, h1, h2, h3⟩ := s1.seq q
    have h2' : us.length = ((xs.map d).map Sl.dat).length := by rw [List.length_map]; exact h2
    have s3 : St X.K B F0 ρ L σ H1 (us ++ vs) ((xs.map d).map .dat ++ ds) := h3.stack fun F r => by
      obtain ⟨r1, r2⟩ := pr_split h2' r
      exact pr_app r1 (by cases r2 with | cons _ t => exact t)
    exact ⟨a, us, rfl, h1, fun l hl' => k _ _ (s3.newLst h2' hl' (by rw [h2, List.length_map]; exact hl))⟩
  · cases hz
/-- tuple(xs) -/
theorem x_tuple {o : Option (List α)} {p : Pos} (h : QX X d e ρ L o) (hm : X.mg "tuple" = none) (hs : starEach [e] X.env = (false, eval e X.env) :: starEach [] X.env := by rfl)
    (hh : X.mg "tuple" = none → ∀ {ta}, PE X e ta → PE X (.Call (.Name "tuple" p) [e] [] pos) (tCB (fun xs H Q => ∃ p ys, xs = [.ref p] ∧ ((SqL X.K H p ys ∧ ∀ l, H l = none → Q (.ref l) (upd H l (.tup ys))) ∨ (SqT X.K H p ys ∧ Q (.ref p) H))) (tCons ta tNil)) := by intro hm _ h; exact pe_callTy call_tuple_of (by rfl) hm PyProof.Rows.boot_tuple (pa_cons h pa_nil)) :
    EX X (dT d) (.Call (.Name "tuple" p) [e] [] pos) ρ L (o.bind fun xs => szO xs.length xs) := by
  obtain ⟨t, p, h⟩ := h
  refine ⟨_, hh hm p, fun z hz B F0 σ H vs ds Q s k => ?_⟩
  obtain ⟨xs, hx, hz⟩ := Option.bind_eq_some_iff.mp hz
  unfold szO at hz
  split at hz
  · rename_i hl
    have e : xs = z := by simpa using hz
    subst e
    refine h xs hx B F0 σ H vs ds _ s fun v sl H1 q s1 => ?_
    rcases s1.seq2 q with ⟨a, us, rfl, h1, h2, h3⟩ | ⟨a, us, rfl, h1, h2, h3, rfl⟩
    · have s3 := h3.stack (ws := us ++ vs) (es := (xs.map d).map .dat ++ ds) fun F r => by
        obtain ⟨r1, r2⟩ := pr_split (by rw [List.length_map]; exact h2) r
        exact pr_app r1 (by cases r2 with | cons _ t => exact t)
      exact ⟨a, us, rfl, .inl ⟨h1, fun l hl' => k _ _ (s3.newTup h2 hl' (by rw [h2, List.length_map]; exact hl))⟩⟩
    · exact ⟨a, us, rfl, .inr ⟨h1, k _ _ s1⟩⟩
  · cases hz
end
end Mir
namespace Mir
open PySem L2

/-! ### calls of own defs -/
def cutB (H : Hp) (L : Ow) : Hp := fun a => if a ∈ L.map (·.1) then none else H a
section
variable {K : PySem.W.Frag} {B F0 F F' H H' : Hp} {L L1 L1' L2 : Ow} {p : Addr}
theorem cutB_none (h : p ∈ L.map (·.1)) : cutB H L p = none := if_pos h
theorem cutB_of (h : p ∉ L.map (·.1)) : cutB H L p = H p := if_neg h
theorem Ok.part (k : Ok K B F0 F H (L1 ++ L2)) : Ok K B F0 F H L1 := by
  have nd := k.nd
  rw [List.map_append, List.nodup_append] at nd
  exact ⟨k.up, k.le, k.amb, k.new, k.sz, fun q m => k.own q (List.mem_append_left _ m), nd.1⟩
/-- a callee starts -/
theorem Ok.enter (k : Ok K B F0 F H (L1 ++ L2)) : Ok K (cutB H L1) F F H L1 := by
  have k1 := k.part
  refine ⟨Same.refl _, k.le, fun a o e => ?_, fun a o e => .inl e, k.sz, fun q m => ?_, k1.nd⟩
  · by_cases h : a ∈ L1.map (·.1)
    · rw [cutB_none h] at e; cases e
    · rw [cutB_of h] at e; exact e
  · obtain ⟨a, b, r⟩ := k1.own q m
    exact ⟨a, cutB_none (List.mem_map_of_mem m), r⟩
/-- .. and has ended -/
theorem Ok.leave (k : Ok K B F0 F H (L1 ++ L2)) (hk : L1'.map (·.1) = L1.map (·.1)) (k' : Ok K (cutB H L1) F F' H' L1') : Ok K B F0 F' H' (L1' ++ L2) := by
  have nd := k.nd
  rw [List.map_append, List.nodup_append] at nd
  have key : ∀ a, a ∈ L1.map (·.1) → F' a = none ∧ B a = none := fun a ha => by
    have ha' := ha
    rw [← hk] at ha'
    obtain ⟨q, hq, e⟩ := List.mem_map.mp ha'
    obtain ⟨q2, hq2, e2⟩ := List.mem_map.mp ha
    exact ⟨by rw [← e]; exact (k'.own q hq).1, by rw [← e2]; exact (k.own q2 (List.mem_append_left _ hq2)).2.1⟩
  refine ⟨k.up.trans k'.up, k'.le, fun a o e => ?_, fun a o e => ?_, k'.sz, fun q m => ?_, ?_⟩
  · refine k'.amb a o ?_
    by_cases h : a ∈ L1.map (·.1)
    · rw [(key a h).2] at e; cases e
    · rw [cutB_of h]; exact k.amb a o e
  · rcases k'.new a o e with h | h | h
    · exact k.new a o h
    · by_cases h2 : a ∈ L1.map (·.1)
      · rw [(key a h2).1] at e; cases e
      · rw [cutB_of h2] at h; exact .inr (.inl (k.amb.free h))
    · exact .inr (.inr h)
  · rcases List.mem_append.mp m with m | m
    · obtain ⟨a, b, r⟩ := k'.own q m
      exact ⟨a, (key q.1 (by rw [← hk]; exact List.mem_map_of_mem m)).2, r⟩
    · obtain ⟨a, b, r⟩ := k.own q (List.mem_append_right _ m)
      have n1 : q.1 ∉ L1.map (·.1) := fun z => nd.2.2 _ z q.1 (List.mem_map_of_mem m) rfl
      obtain ⟨o, ho, nt⟩ := r.there
      have e2 : H' q.1 = H q.1 := by rw [ho]; exact k'.amb _ _ (by rw [cutB_of n1]; exact ho)
      refine ⟨?_, b, r.mono k'.up e2⟩
      cases hF : F' q.1 with
      | none => rfl
      | some u =>
        rcases k'.new _ u hF with h | h | h
        · rw [a] at h; cases h
        · rw [cutB_of n1, ho] at h; cases h
        · have := k'.le _ _ hF
          rw [e2, ho] at this
          cases this
          exact (nt h).elim
  · rw [List.map_append, hk, List.nodup_append]; exact nd
theorem cutB_nil : cutB H [] = H := by funext a; exact if_neg (by simp)
theorem Ok.enter0 (k : Ok K B F0 F H L) : Ok K H F F H [] := by
  have := Ok.enter (L1 := []) k
  rw [cutB_nil] at this
  exact this
theorem Ok.leave0 (k : Ok K B F0 F H L) (k' : Ok K H F F' H' []) : Ok K B F0 F' H' L := Ok.leave (L1 := []) (L1' := []) k rfl (by rw [cutB_nil]; exact k')
end

/-- what a def that turns nothing of its caller's promises -/
def spP (K : PySem.W.Frag) {α β : Type} (enc : α → List Sl) (dR : β → PyData) (m : α → Option β) : Sp := fun vs H Q _ =>
  ∃ a r F, m a = some r ∧ Ok K H F F H [] ∧ Paired (SvR K F) vs (enc a) ∧ ∀ v F' H', Ok K H F F' H' [] → SvR K F' v (.dat (dR r)) → Q v H'
/-- .. one that turns the world w -/
def spG (K : PySem.W.Frag) {α β W : Type} (enc : α → List Sl) (dR : β → PyData) (Lf : W → Ow) (m : α → W → Option (β × W)) : Sp := fun vs H Q _ =>
  ∃ a w r w' B F, m a w = some (r, w') ∧ Ok K B F F H (Lf w) ∧ Paired (SvR K F) vs (enc a) ∧ ∀ v F' H', Ok K B F F' H' (Lf w') → SvR K F' v (.dat (dR r)) → Q v H'
/-- a def of the text at its name -/
structure Knows (P : Program) (w : World) (K : PySem.W.Frag) (mg : Str → Option Value) (base : Heap) (x : Str) (k : Nat) (ps : List Str) (sp : Sp) : Prop where
  ex : ∃ f fd, FnOk P w K mg base CX0 k f fd ps sp ∧ mg x = some (.ref f) ∧ PySem.W.keepIn K (.ref f) = true ∧ Binds K fd ps []
abbrev KnowsX (X : Cx) (x : Str) (k : Nat) (ps : List Str) (sp : Sp) : Prop := Knows X.prog X.w X.K X.mg X.base x k ps sp
theorem Knows.mono {P : Program} {w : World} {K : PySem.W.Frag} {mg : Str → Option Value} {base : Heap} {x : Str} {k j : Nat} {ps : List Str} {sp : Sp} (h : Knows P w K mg base x k ps sp) (e : k ≤ j) : Knows P w K mg base x j ps sp :=
  let ⟨f, fd, a, b, c, d⟩ := h; ⟨f, fd, a.mono e, b, c, d⟩

section
variable {X : Cx} {α β γ δ W : Type} {e a b c : Expr} {es : List Expr} {ρ : Env} {L : Ow} {p pos : Pos} {d : α → PyData} {d' : β → PyData} {x : Str} {k j : Nat} {ps : List Str}
/-- f(e, ..) -/
theorem x_call {enc : α → List Sl} {m : α → Option β} {o : Option α} (G : KnowsX X x k ps (spP X.K enc d' m)) (hr : Room j X.A) (ha : AX X enc (e :: es) ρ L o) (hj : k ≤ j := by decide)
    (hh : ∀ {f fd t}, FnOk X.prog X.w X.K X.mg X.base CX0 k f fd ps (spP X.K enc d' m) → X.mg x = some (.ref f) → PySem.W.keepIn X.K (.ref f) = true → Binds X.K fd ps [] → Room k X.A → PA X (e :: es) t →
      PE X (.Call (.Name x p) (e :: es) [] pos) (tCall (spP X.K enc d' m) [] E0 t) := by intro f fd t h1 h2 h3 h4 h5 h6; exact pe_call h1 h5 (by rfl) h2 h3 h4 .nil pass0 h6) :
    EX X d' (.Call (.Name x p) (e :: es) [] pos) ρ L (o.bind m) := by
  obtain ⟨f, fd, h1, h2, h3, h4⟩ := G
  obtain ⟨t, pa, ha⟩ := ha
  refine ⟨_, hh h1 h2 h3 h4 (hr.mono hj) pa, fun r hz B F0 σ H vs ds Q s q => ?_⟩
  obtain ⟨y, hy, hz⟩ := Option.bind_eq_some_iff.mp hz
  refine ha y hy B F0 σ H vs ds _ s fun us H1 e1 s1 => ?_
  rw [List.append_nil]
  obtain ⟨F, ok, sl, sv⟩ := s1
  obtain ⟨sv1, sv2⟩ := pr_split e1 sv
  exact ⟨y, r, F, hz, ok.enter0, sv1, fun v F' H' k' rv => q v H' ⟨F', ok.leave0 k', sls_mono k'.up sl, .cons rv (svs_mono k'.up sv2)⟩⟩
/-- f(state, e, ..), where f turns the world -/
theorem m_call {enc : α → List Sl} {Lf : W → Ow} {Lr : Ow} {m : α → W → Option (β × W)} {w : W} {o : Option (α × W)} (hL : ∀ w w', (Lf w').map (·.1) = (Lf w).map (·.1)) (G : KnowsX X x k ps (spG X.K enc d' Lf m)) (hr : Room j X.A) (ha : AM X enc (e :: es) ρ (fun w => Lf w ++ Lr) w o) (hj : k ≤ j := by decide)
    (hh : ∀ {f fd t}, FnOk X.prog X.w X.K X.mg X.base CX0 k f fd ps (spG X.K enc d' Lf m) → X.mg x = some (.ref f) → PySem.W.keepIn X.K (.ref f) = true → Binds X.K fd ps [] → Room k X.A → PA X (e :: es) t →
      PE X (.Call (.Name x p) (e :: es) [] pos) (tCall (spG X.K enc d' Lf m) [] E0 t) := by intro f fd t h1 h2 h3 h4 h5 h6; exact pe_call h1 h5 (by rfl) h2 h3 h4 .nil pass0 h6) :
    EM X d' (.Call (.Name x p) (e :: es) [] pos) ρ (fun w => Lf w ++ Lr) w (o.bind fun q => m q.1 q.2) := by
  obtain ⟨f, fd, h1, h2, h3, h4⟩ := G
  obtain ⟨t, pa, ha⟩ := ha
  refine ⟨_, hh h1 h2 h3 h4 (hr.mono hj) pa, fun r w2 hz B F0 σ H vs ds Q s q => ?_⟩
  obtain ⟨⟨y, w1⟩, hy, hz⟩ := Option.bind_eq_some_iff.mp hz
  refine ha y w1 hy B F0 σ H vs ds _ s fun us H1 e1 s1 => ?_
  rw [List.append_nil]
  obtain ⟨F, ok, sl, sv⟩ := s1
  obtain ⟨sv1, sv2⟩ := pr_split e1 sv
  exact ⟨y, w1, r, w2, _, F, hz, ok.enter, sv1, fun v F' H' k' rv => q v H' ⟨F', ok.leave (hL w1 w2) k', sls_mono k'.up sl, .cons rv (svs_mono k'.up sv2)⟩⟩
theorem AX.m {enc : α → List Sl} {Lf : W → Ow} {w : W} {o : Option α} (h : AX X enc es ρ (Lf w) o) : AM X enc es ρ Lf w (o.map fun a => (a, w)) := by
  obtain ⟨t, p, h⟩ := h
  refine ⟨t, p, fun a w' hm B F0 σ H vs ds Q s k => ?_⟩
  obtain ⟨x, hx, e⟩ := Option.map_eq_some_iff.mp hm
  injection e with e1 e2
  subst e1 e2
  exact h _ hx B F0 σ H vs ds Q s k
end

/-! ### blocks -/
inductive Oc where
  | nx (ρ : Env) (L : Ow)
  | rt (s : Sl) (L : Ow)
  | bk (ρ : Env) (L : Ow)
  | ct (ρ : Env) (L : Ow)
  | ro (f : Addr → Addr → Sl × Ow)
def Good (K : PySem.W.Frag) (B F0 : Hp) (vs : List V) (ds : List Sl) (D : Ends) : Oc → Prop
  | .nx ρ L => ∀ σ H, St K B F0 ρ L σ H vs ds → D.nx σ H
  | .rt s L => ∀ v H, St K B F0 [] L [] H (v :: vs) (s :: ds) → D.rt v H
  | .bk ρ L => ∀ σ H, St K B F0 ρ L σ H vs ds → D.bk σ H
  | .ct ρ L => ∀ σ H, St K B F0 ρ L σ H vs ds → D.ct σ H
  | .ro f => ∀ p q v H, St K B F0 [] (f p q).2 [] H (v :: vs) ((f p q).1 :: ds) → D.rt v H
/-- a block, a statement: from the names ρ and the owned L, by its mirror m to an outcome -/
def BX (X : Cx) {β : Type} (sts : List Stmt) (ρ : Env) (L : Ow) (m : Option β) (oc : β → Oc) : Prop :=
  ∃ t, PSs X sts t ∧ ∀ b, m = some b → ∀ B F0 σ H vs ds D, St X.K B F0 ρ L σ H vs ds → Good X.K B F0 vs ds D (oc b) → t D σ H
def SX (X : Cx) {β : Type} (st : Stmt) (ρ : Env) (L : Ow) (m : Option β) (oc : β → Oc) : Prop :=
  ∃ t, PS X st t ∧ ∀ b, m = some b → ∀ B F0 σ H vs ds D, St X.K B F0 ρ L σ H vs ds → Good X.K B F0 vs ds D (oc b) → t D σ H
/-- a target takes a value of the slot s -/
def GX (X : Cx) (tg : Expr) (ρ : Env) (L : Ow) (s : Sl) (ρ' : Env) : Prop :=
  ∃ g, PG X tg g ∧ ∀ B F0 σ H v vs ds Q, St X.K B F0 ρ L σ H (v :: vs) (s :: ds) → (∀ σ' H', St X.K B F0 ρ' L σ' H' vs ds → Q σ' H') → g v σ H Q
/-- what a part of a loop's or a branch's body comes to -/
inductive Fl (S R : Type) where
  | nx (s : S)
  | ct (s : S)
  | bk (s : S)
  | ex (r : R)
inductive Fx (S R : Type) where
  | go (s : S)
  | ex (r : R)
abbrev Vw (S : Type) := S → Env × Ow
abbrev Rd (R : Type) := R → Sl × Ow
def ocr {R : Type} (rd : Rd R) (r : R) : Oc := .rt (rd r).1 (rd r).2
def ocl {S R : Type} (vw : Vw S) (rd : Rd R) : Fl S R → Oc
  | .nx s => .nx (vw s).1 (vw s).2
  | .ct s => .ct (vw s).1 (vw s).2
  | .bk s => .bk (vw s).1 (vw s).2
  | .ex r => .rt (rd r).1 (rd r).2
def ocx {S R : Type} (vw : Vw S) (rd : Rd R) : Fx S R → Oc
  | .go s => .nx (vw s).1 (vw s).2
  | .ex r => .rt (rd r).1 (rd r).2
def ocn {S : Type} (vw : Vw S) (s : S) : Oc := .nx (vw s).1 (vw s).2
/-- on from a part that may have returned -/
def Fx.on {S R γ : Type} (ret : R → γ) (k : S → Option γ) : Fx S R → Option γ
  | .go s => k s
  | .ex r => some (ret r)
/-- a for's mirror -/
def forO {S α β : Type} (f : S → α → Option (Fl S β)) : List α → S → Option (Fx S β)
  | [], s => some (.go s)
  | x :: xs, s => (f s x).bind fun
    | .nx s => forO f xs s
    | .ct s => forO f xs s
    | .bk s => some (.go s)
    | .ex b => some (.ex b)
def foldO {S α : Type} (f : S → α → Option S) : List α → S → Option S
  | [], s => some s
  | x :: xs, s => (f s x).bind (foldO f xs)
/-- a while's mirror -/
def whileO {S β : Type} (c : S → Option Bool) (f : S → Option (Fl S β)) : Nat → S → Option (Fx S β)
  | 0, _ => none
  | n + 1, s => (c s).bind fun k => if k then (f s).bind fun
    | .nx s => whileO c f n s
    | .ct s => whileO c f n s
    | .bk s => some (.go s)
    | .ex b => some (.ex b)
    else some (.go s)

section
variable {X : Cx} {α β γ δ S T : Type} {e : Expr} {ρ ρ' : Env} {L : Ow} {pos : Pos} {st : Stmt} {sts rest : List Stmt} {d : α → PyData} {oc : β → Oc}
theorem BX.conv {m m' : Option β} (h : BX X sts ρ L m oc) (q : m = m') : BX X sts ρ L m' oc := q ▸ h
theorem SX.conv {m m' : Option β} (h : SX X st ρ L m oc) (q : m = m') : SX X st ρ L m' oc := q ▸ h
theorem BX.all {ρf : S → Env} {Lf : S → Ow} {k : S → Option β} (h : ∀ s, BX X sts (ρf s) (Lf s) (k s) oc) :
    ∃ t, PSs X sts t ∧ ∀ s b, k s = some b → ∀ B F0 σ H vs ds D, St X.K B F0 (ρf s) (Lf s) σ H vs ds → Good X.K B F0 vs ds D (oc b) → t D σ H := by
  refine ⟨fun D σ H => ∃ s b B F0 vs ds, k s = some b ∧ St X.K B F0 (ρf s) (Lf s) σ H vs ds ∧ Good X.K B F0 vs ds D (oc b), ⟨fun pins s σ H D I h2 => ?_⟩, fun s b e B F0 σ H vs ds D q g => ⟨s, b, B, F0, vs, ds, e, q, g⟩⟩
  obtain ⟨s', b, B, F0, vs, ds, e, q, g⟩ := h2
  obtain ⟨t, p, h⟩ := h s'
  exact p.run pins s σ H D I (h b e B F0 σ H vs ds D q g)
theorem SX.all {ρf : S → Env} {Lf : S → Ow} {k : S → Option β} (h : ∀ s, SX X st (ρf s) (Lf s) (k s) oc) :
    ∃ t, PS X st t ∧ ∀ s b, k s = some b → ∀ B F0 σ H vs ds D, St X.K B F0 (ρf s) (Lf s) σ H vs ds → Good X.K B F0 vs ds D (oc b) → t D σ H := by
  refine ⟨fun D σ H => ∃ s b B F0 vs ds, k s = some b ∧ St X.K B F0 (ρf s) (Lf s) σ H vs ds ∧ Good X.K B F0 vs ds D (oc b), ⟨fun pins s σ H D I h2 => ?_⟩, fun s b e B F0 σ H vs ds D q g => ⟨s, b, B, F0, vs, ds, e, q, g⟩⟩
  obtain ⟨s', b, B, F0, vs, ds, e, q, g⟩ := h2
  obtain ⟨t, p, h⟩ := h s'
  exact p.run pins s σ H D I (h b e B F0 σ H vs ds D q g)
theorem TX.all {c : Expr} {ρf : S → Env} {Lf : S → Ow} {k : S → Option Bool} (h : ∀ s, TX X c (ρf s) (Lf s) (k s)) :
    ∃ t, PT X c t ∧ ∀ s b, k s = some b → ∀ B F0 σ H vs ds Q, St X.K B F0 (ρf s) (Lf s) σ H vs ds → (∀ H', St X.K B F0 (ρf s) (Lf s) σ H' vs ds → Q b H') → t σ H Q := by
  refine ⟨fun σ H Q => ∃ s b B F0 vs ds, k s = some b ∧ St X.K B F0 (ρf s) (Lf s) σ H vs ds ∧ ∀ H', St X.K B F0 (ρf s) (Lf s) σ H' vs ds → Q b H', ⟨fun pins s σ H Q I h2 => ?_⟩, fun s b e B F0 σ H vs ds Q q g => ⟨s, b, B, F0, vs, ds, e, q, g⟩⟩
  obtain ⟨s', b, B, F0, vs, ds, e, q, g⟩ := h2
  obtain ⟨t, p, h⟩ := h s'
  exact p.run pins s σ H Q I (h b e B F0 σ H vs ds Q q g)
theorem GX.all {tg : Expr} {ρf ρf' : S → Env} {Lf : S → Ow} {sf : S → Sl} (h : ∀ s, GX X tg (ρf s) (Lf s) (sf s) (ρf' s)) :
    ∃ g, PG X tg g ∧ ∀ s B F0 σ H v vs ds Q, St X.K B F0 (ρf s) (Lf s) σ H (v :: vs) (sf s :: ds) → (∀ σ' H', St X.K B F0 (ρf' s) (Lf s) σ' H' vs ds → Q σ' H') → g v σ H Q := by
  refine ⟨fun v σ H Q => ∃ s B F0 vs ds, St X.K B F0 (ρf s) (Lf s) σ H (v :: vs) (sf s :: ds) ∧ ∀ σ' H', St X.K B F0 (ρf' s) (Lf s) σ' H' vs ds → Q σ' H', ⟨fun pins s σ H v u Q I r h2 => ?_⟩, fun s B F0 σ H v vs ds Q q g => ⟨s, B, F0, vs, ds, q, g⟩⟩
  obtain ⟨s', B, F0, vs, ds, q, g⟩ := h2
  obtain ⟨t, p, h⟩ := h s'
  exact p.run pins s σ H v u Q I r (h B F0 σ H v vs ds Q q g)
theorem EX.all {ρf : S → Env} {Lf : S → Ow} {k : S → Option α} (h : ∀ s, EX X d e (ρf s) (Lf s) (k s)) :
    ∃ t, PE X e t ∧ ∀ s b, k s = some b → ∀ B F0 σ H vs ds Q, St X.K B F0 (ρf s) (Lf s) σ H vs ds → (∀ v H', St X.K B F0 (ρf s) (Lf s) σ H' (v :: vs) (.dat (d b) :: ds) → Q v H') → t σ H Q := by
  refine ⟨fun σ H Q => ∃ s b B F0 vs ds, k s = some b ∧ St X.K B F0 (ρf s) (Lf s) σ H vs ds ∧ ∀ v H', St X.K B F0 (ρf s) (Lf s) σ H' (v :: vs) (.dat (d b) :: ds) → Q v H', ⟨fun pins s σ H Q I h2 => ?_⟩, fun s b e B F0 σ H vs ds Q q g => ⟨s, b, B, F0, vs, ds, e, q, g⟩⟩
  obtain ⟨s', b, B, F0, vs, ds, e, q, g⟩ := h2
  obtain ⟨t, p, h⟩ := h s'
  exact p.run pins s σ H Q I (h b e B F0 σ H vs ds Q q g)

/-! ### blocks of statements -/
/-- one statement that goes on, then the rest -/
theorem b_step {vw : Vw S} {m : Option S} {k : S → Option β} (h : SX X st ρ L m (ocn vw)) (hr : ∀ s, BX X rest (vw s).1 (vw s).2 (k s) oc) : BX X (st :: rest) ρ L (m.bind k) oc := by
  obtain ⟨t, p, h⟩ := h
  obtain ⟨t', p', hr⟩ := BX.all hr
  refine ⟨_, pss_cons p p', fun b hb B F0 σ H vs ds D s g => ?_⟩
  obtain ⟨x, hx, hb⟩ := Option.bind_eq_some_iff.mp hb
  exact h x hx B F0 σ H vs ds _ s fun σ' H' s' => hr x b hb B F0 σ' H' vs ds D s' g
/-- .. that may also return -/
theorem b_stepF {R : Type} {vw : Vw S} {rd : Rd R} {m : Option (Fx S R)} {k : S → Option β} (ret : R → β) (h : SX X st ρ L m (ocx vw rd)) (hr : ∀ s, BX X rest (vw s).1 (vw s).2 (k s) oc) (hret : ∀ r, oc (ret r) = .rt (rd r).1 (rd r).2 := by intro _; rfl) : BX X (st :: rest) ρ L (m.bind (Fx.on ret k)) oc := by
  obtain ⟨t, p, h⟩ := h
  obtain ⟨t', p', hr⟩ := BX.all hr
  refine ⟨_, pss_cons p p', fun b hb B F0 σ H vs ds D s g => ?_⟩
  obtain ⟨x, hm, hb⟩ := Option.bind_eq_some_iff.mp hb
  refine h x hm B F0 σ H vs ds _ s ?_
  cases x with
  | go x => exact fun σ' H' s' => hr x b hb B F0 σ' H' vs ds D s' g
  | ex r =>
    have e : ret r = b := by simpa [Fx.on] using hb
    subst e
    rw [hret] at g
    exact g
theorem b_one {m : Option β} (h : SX X st ρ L m oc) : BX X [st] ρ L m oc := by
  obtain ⟨t, p, h⟩ := h
  exact ⟨_, pss_one p, h⟩
/-- the slots that are kept -/
def mask : List Bool → Env → Env
  | b :: bs, s :: ρ => (if b then s else none) :: mask bs ρ
  | _, ρ => ρ
theorem pr_mask {K : PySem.W.Frag} {F : Hp} : ∀ (bs : List Bool) {σ : L2.St} {ρ : Env}, Paired (SlR K F) σ ρ → Paired (SlR K F) σ (mask bs ρ)
  | [], _, _, h => by unfold mask; exact h
  | b :: bs, _, _, .nil => by unfold mask; exact .nil
  | b :: bs, _, _, .cons r t => by
    unfold mask
    refine .cons ?_ (pr_mask bs t)
    cases b with
    | true => exact r
    | false => trivial
theorem St.mask {K : PySem.W.Frag} {B F0 H : Hp} {σ : L2.St} {vs : List V} {ds : List Sl} (bs : List Bool) (h : St K B F0 ρ L σ H vs ds) : St K B F0 (mask bs ρ) L σ H vs ds :=
  let ⟨F, k, a, b⟩ := h; ⟨F, k, pr_mask bs a, b⟩
theorem St.part {K : PySem.W.Frag} {B F0 H : Hp} {σ : L2.St} {vs : List V} {ds : List Sl} {L1 L2 : Ow} (h : St K B F0 ρ (L1 ++ L2) σ H vs ds) : St K B F0 ρ L1 σ H vs ds :=
  let ⟨F, k, a, b⟩ := h; ⟨F, k.part, a, b⟩
/-- the end of a block: some slots are forgotten, the youngest owned are let go -/
theorem b_end {b : β} {L1 L2 : Ow} (bs : List Bool) (h : oc b = .nx (mask bs ρ) L1) (hL : L = L1 ++ L2 := by rfl) : BX X [] ρ L (some b) oc :=
  ⟨_, pss_nil, fun b' hb B F0 σ H vs ds D s g => by
    cases hb
    rw [h] at g
    subst hL
    exact g σ H (s.mask bs).part⟩
theorem b_pass {b : β} {L1 L2 : Ow} (bs : List Bool) (h : oc b = .nx (mask bs ρ) L1) (hL : L = L1 ++ L2 := by rfl) : BX X [.Pass pos] ρ L (some b) oc :=
  ⟨_, pss_one ps_pass, fun b' hb B F0 σ H vs ds D s g => by
    cases hb
    rw [h] at g
    subst hL
    exact g σ H (s.mask bs).part⟩
theorem b_break {b : β} {L1 L2 : Ow} (bs : List Bool) (h : oc b = .bk (mask bs ρ) L1) (hL : L = L1 ++ L2 := by rfl) : BX X [.Break pos] ρ L (some b) oc :=
  ⟨_, pss_one ps_break, fun b' hb B F0 σ H vs ds D s g => by
    cases hb
    rw [h] at g
    subst hL
    exact g σ H (s.mask bs).part⟩
theorem b_continue {b : β} {L1 L2 : Ow} (bs : List Bool) (h : oc b = .ct (mask bs ρ) L1) (hL : L = L1 ++ L2 := by rfl) : BX X [.Continue pos] ρ L (some b) oc :=
  ⟨_, pss_one ps_continue, fun b' hb B F0 σ H vs ds D s g => by
    cases hb
    rw [h] at g
    subst hL
    exact g σ H (s.mask bs).part⟩
theorem St.noslots {K : PySem.W.Frag} {B F0 H : Hp} {σ : L2.St} {vs : List V} {ds : List Sl} (h : St K B F0 ρ L σ H vs ds) : St K B F0 [] L [] H vs ds :=
  let ⟨F, k, a, b⟩ := h; ⟨F, k, .nil, b⟩
/-- return e -/
theorem b_ret {o : Option α} {L1 L2 : Ow} (g : α → β) (h : EX X d e ρ L o) (hoc : ∀ a, oc (g a) = .rt (.dat (d a)) L1) (hL : L = L1 ++ L2 := by rfl) : BX X [.Return (some e) pos] ρ L (o.map g) oc := by
  obtain ⟨t, p, h⟩ := h
  refine ⟨_, pss_one (ps_ret p), fun b hb B F0 σ H vs ds D s q => ?_⟩
  obtain ⟨a, ha, rfl⟩ := Option.map_eq_some_iff.mp hb
  rw [hoc] at q
  subst hL
  exact h a ha B F0 σ H vs ds _ s fun v H' s' => q v H' s'.part.noslots
/-- return of an owned list -/
theorem b_retO {p : Addr} {xs : List α} {L1 L2 M : Ow} {b : β} (h : ES X e ρ L (some (.ptr p))) (hoc : oc b = .rt (.dat (dL d xs)) L1) (hL : L = L1 ++ (M ++ (p, OD.lst ((xs.map d).map .dat)) :: L2) := by rfl) : BX X [.Return (some e) pos] ρ L (some b) oc := by
  obtain ⟨t, p, h⟩ := h
  refine ⟨_, pss_one (ps_ret p), fun b hb B F0 σ H vs ds D s q => ?_⟩
  cases hb
  rw [hoc] at q
  subst hL
  refine h _ rfl B F0 σ H vs ds _ s fun v H' s' => q v H' ?_
  rw [← List.append_assoc] at s'
  have := s'.frz
  rw [List.append_assoc] at this
  exact this.part.noslots
/-- what never is come to -/
theorem b_never : BX X sts ρ L (none : Option β) oc := ⟨_, pss_never, fun _ h => by cases h⟩

/-! ### targets -/
theorem St.store {K : PySem.W.Frag} {B F0 H : Hp} {σ : L2.St} {v : V} {s : Sl} {vs : List V} {ds : List Sl} (i : Nat) (h : St K B F0 ρ L σ H (v :: vs) (s :: ds)) : St K B F0 (ρ.set i (some s)) L (σ.set i (some v)) H vs ds := by
  obtain ⟨F, k, a, b⟩ := h
  cases b with
  | cons r t => exact ⟨F, k, pr_set (show SlR K F (some v) (some s) from r) i a, t⟩
theorem g_name (i : Nat) {x : Str} {s : Sl} (hN : X.N.Nodup) (hi : X.N[i]? = some x := by rfl) (hx : Loc X.env.scope x := by first | exact Or.inl rfl | exact Or.inr rfl) (hf : X.fn x = true ∨ X.env.scope.names.lookup x = some .local := by first | exact .inl rfl | exact .inr rfl) : GX X (.Name x pos) ρ L s (ρ.set i (some s)) :=
  ⟨_, pg_name hN hi hx hf, fun B F0 σ H v vs ds Q st k => k _ _ (st.store i)⟩
/-- several targets -/
def GXs (X : Cx) (ts : List Expr) (ρ : Env) (L : Ow) (ss : List Sl) (ρ' : Env) : Prop :=
  ∃ g, PGs X ts g ∧ ∀ B F0 σ H us vs ds Q, us.length = ss.length → St X.K B F0 ρ L σ H (us ++ vs) (ss ++ ds) → (∀ σ' H', St X.K B F0 ρ' L σ' H' vs ds → Q σ' H') → g us σ H Q
theorem gs_nil : GXs X [] ρ L [] ρ := ⟨_, pgs_nil, fun B F0 σ H us vs ds Q e s k => by
  cases us with
  | nil => exact ⟨rfl, k σ H s⟩
  | cons u r => exact absurd e (by simp)⟩
theorem gs_cons {t : Expr} {ts : List Expr} {s : Sl} {ss : List Sl} {ρ1 ρ2 : Env} (h : GX X t ρ L s ρ1) (h' : GXs X ts ρ1 L ss ρ2) (hs : (assignEach (t :: ts) X.env).map (·.2) = assign t X.env :: (assignEach ts X.env).map (·.2) := by rfl) : GXs X (t :: ts) ρ L (s :: ss) ρ2 := by
  obtain ⟨g, p, h⟩ := h
  obtain ⟨g', p', h'⟩ := h'
  refine ⟨_, pgs_cons p p' hs, fun B F0 σ H us vs ds Q e st k => ?_⟩
  cases us with
  | nil => exact absurd e (by simp)
  | cons u r => exact ⟨u, r, rfl, h B F0 σ H u (r ++ vs) (ss ++ ds) _ st fun σ1 H1 s1 => h' B F0 σ1 H1 r vs ds Q (by simpa using e) s1 k⟩
/-- (a, b, ..) = a tuple -/
theorem g_tup {es : List Expr} {k : Nat} {xs : List PyData} (hc : X.calm = true) (h : GXs X es ρ L (xs.map .dat) ρ') (hn : (assignEach es X.env).length = xs.length := by rfl) (hst : (assignEach es X.env).findIdx? (·.1) = none := by rfl) : GX X (.Tuple es k pos) ρ L (.dat (.tuple xs)) ρ' := by
  obtain ⟨g, p, h⟩ := h
  refine ⟨_, pg_tup hc p hn hst, fun B F0 σ H v vs ds Q s k => ?_⟩
  obtain ⟨a, us, rfl, h1, h2, _, h3⟩ := s.tup1
  have s3 := h3.stack (ws := us ++ vs) (es := xs.map .dat ++ ds) fun F r => by
    obtain ⟨r1, r2⟩ := pr_split (by rw [List.length_map]; exact h2) r
    exact pr_app r1 (by cases r2 with | cons _ t => exact t)
  exact ⟨a, us, rfl, SqT.of h1, h2, h B F0 σ H us vs ds Q (by rw [List.length_map]; exact h2) s3 k⟩

/-! ### assignments -/
theorem s_asg {o : Option α} {tg : Expr} {ρf : α → Env} (h : EX X d e ρ L o) (hg : ∀ a, GX X tg ρ L (.dat (d a)) (ρf a)) (hs : swapsWithSole [tg] e pos.line X.env = pure false := by rfl) (hw : swappedStores [tg] e X.env = pure none := by rfl)
    (h1 : (assignEach [tg] X.env).map (·.2) = [assign tg X.env] := by rfl) : SX X (.Assign [tg] e pos) ρ L o (ocn fun a => (ρf a, L)) := by
  obtain ⟨t, p, h⟩ := h
  obtain ⟨g, p', hg⟩ := GX.all (ρf := fun _ => ρ) (Lf := fun _ => L) hg
  exact ⟨_, ps_asg p p' hs hw h1, fun a ha B F0 σ H vs ds D s q => h a ha B F0 σ H vs ds _ s fun v H1 s1 => hg a B F0 σ H1 v vs ds _ s1 q⟩
/-- x = e -/
theorem s_set {o : Option α} (i : Nat) {x : Str} {pos' : Pos} (hN : X.N.Nodup) (h : EX X d e ρ L o) (hs : swapsWith e (some (.Name x pos')) pos.line X.env = pure false := by rfl) (hi : X.N[i]? = some x := by rfl) (hx : Loc X.env.scope x := by first | exact Or.inl rfl | exact Or.inr rfl) (hf : X.fn x = true ∨ X.env.scope.names.lookup x = some .local := by first | exact .inl rfl | exact .inr rfl) :
    SX X (.Assign [.Name x pos'] e pos) ρ L o (ocn fun a => (ρ.set i (some (.dat (d a))), L)) := by
  obtain ⟨t, p, h⟩ := h
  exact ⟨_, ps_set hN hi hx p hs hf, fun a ha B F0 σ H vs ds D s q => h a ha B F0 σ H vs ds _ s fun v H1 s1 => q _ _ (s1.store i)⟩
theorem s_setM {W : Type} {Lf : W → Ow} {w : W} {o : Option (α × W)} (i : Nat) {x : Str} {pos' : Pos} (hN : X.N.Nodup) (h : EM X d e ρ Lf w o) (hs : swapsWith e (some (.Name x pos')) pos.line X.env = pure false := by rfl) (hi : X.N[i]? = some x := by rfl) (hx : Loc X.env.scope x := by first | exact Or.inl rfl | exact Or.inr rfl) (hf : X.fn x = true ∨ X.env.scope.names.lookup x = some .local := by first | exact .inl rfl | exact .inr rfl) :
    SX X (.Assign [.Name x pos'] e pos) ρ (Lf w) o (ocn fun a => (ρ.set i (some (.dat (d a.1))), Lf a.2)) := by
  obtain ⟨t, p, h⟩ := h
  exact ⟨_, ps_set hN hi hx p hs hf, fun a ha B F0 σ H vs ds D s q => h a.1 a.2 ha B F0 σ H vs ds _ s fun v H1 s1 => q _ _ (s1.store i)⟩
/-- x = a new owned object: its address is a new letter -/
theorem b_setO {od : α → OD} {o : Option α} {k : α → Option β} (i : Nat) {x : Str} {pos' : Pos} (hN : X.N.Nodup) (h : EO X od e ρ L o) (hr : ∀ p a, BX X rest (ρ.set i (some (.ptr p))) (L ++ [(p, od a)]) (k a) oc) (hs : swapsWith e (some (.Name x pos')) pos.line X.env = pure false := by rfl) (hi : X.N[i]? = some x := by rfl) (hx : Loc X.env.scope x := by first | exact Or.inl rfl | exact Or.inr rfl) (hf : X.fn x = true ∨ X.env.scope.names.lookup x = some .local := by first | exact .inl rfl | exact .inr rfl) :
    BX X (.Assign [.Name x pos'] e pos :: rest) ρ L (o.bind k) oc := by
  obtain ⟨t, p, h⟩ := h
  obtain ⟨t', p', hr⟩ := BX.all (S := Addr × α) (ρf := fun q => ρ.set i (some (.ptr q.1))) (Lf := fun q => L ++ [(q.1, od q.2)]) (k := fun q => k q.2) (fun q => hr q.1 q.2)
  refine ⟨_, pss_cons (ps_set hN hi hx p hs hf) p', fun b hb B F0 σ H vs ds D s g => ?_⟩
  obtain ⟨a, ha, hb⟩ := Option.bind_eq_some_iff.mp hb
  exact h a ha B F0 σ H vs ds _ s fun p H1 s1 => hr (p, a) b hb B F0 _ _ vs ds D (s1.store i) g
/-- e, its value dropped -/
theorem s_expr {o : Option α} (h : EX X d e ρ L o) (hs : swapsWith e none pos.line X.env = pure false := by rfl) : SX X (.Expr e pos) ρ L o (ocn fun _ => (ρ, L)) := by
  obtain ⟨t, p, h⟩ := h
  exact ⟨_, ps_expr p hs, fun a ha B F0 σ H vs ds D s q => h a ha B F0 σ H vs ds _ s fun v H1 s1 => q _ _ s1.pop⟩
end
end Mir
namespace Mir
open PySem L2

/-! ### if -/
section
variable {X : Cx} {α β γ δ S T : Type} {e c : Expr} {ρ ρ' : Env} {L : Ow} {pos : Pos} {st : Stmt} {sts rest A A' : List Stmt} {d : α → PyData} {oc : β → Oc}
theorem s_if {o : Option Bool} {m m' : Option β} (hc : TX X c ρ L o) (h : BX X A ρ L m oc) (h' : BX X A' ρ L m' oc) : SX X (.If c A A' pos) ρ L (o.bind fun k => if k then m else m') oc := by
  obtain ⟨t, p, hc⟩ := hc
  obtain ⟨t1, p1, h⟩ := h
  obtain ⟨t2, p2, h'⟩ := h'
  refine ⟨_, ps_if p p1 p2, fun b hb B F0 σ H vs ds D s g => ?_⟩
  obtain ⟨k, hk, hb⟩ := Option.bind_eq_some_iff.mp hb
  refine hc k hk B F0 σ H vs ds _ s fun H1 s1 => ?_
  cases k with
  | true => exact iteT (h b (by simpa using hb) B F0 σ H1 vs ds D s1 g)
  | false => exact iteF (h' b (by simpa using hb) B F0 σ H1 vs ds D s1 g)
/-- if c: .. that returns; the rest -/
theorem b_ifret {R : Type} {rd : Rd R} {o : Option Bool} {m : Option R} {k : Option β} (ret : R → β) (hc : TX X c ρ L o) (h : BX X A ρ L m (ocr rd)) (hr : BX X rest ρ L k oc) (hret : ∀ r, oc (ret r) = .rt (rd r).1 (rd r).2 := by intro _; rfl) : BX X (.If c A [] pos :: rest) ρ L (o.bind fun q => if q then m.map ret else k) oc := by
  obtain ⟨t, p, hc⟩ := hc
  obtain ⟨t1, p1, h⟩ := h
  obtain ⟨t2, p2, hr⟩ := hr
  refine ⟨_, pss_cons (ps_if p p1 pss_nil) p2, fun b hb B F0 σ H vs ds D s g => ?_⟩
  obtain ⟨q, hq, hb⟩ := Option.bind_eq_some_iff.mp hb
  refine hc q hq B F0 σ H vs ds _ s fun H1 s1 => ?_
  cases q with
  | true =>
    obtain ⟨r, hm, rfl⟩ := Option.map_eq_some_iff.mp (show m.map ret = some b by simpa using hb)
    rw [hret] at g
    exact iteT (h r hm B F0 σ H1 vs ds _ s1 g)
  | false => exact iteF (hr b (by simpa using hb) B F0 σ H1 vs ds D s1 g)
/-- if c: .. that goes to the loop's next turn; the rest -/
theorem b_ifct {R : Type} {vw : Vw S} {rd : Rd R} {o : Option Bool} {m : Option S} {k : Option (Fl S R)} (hc : TX X c ρ L o) (h : BX X A ρ L m (fun s => .ct (vw s).1 (vw s).2)) (hr : BX X rest ρ L k (ocl vw rd)) : BX X (.If c A [] pos :: rest) ρ L (o.bind fun q => if q then m.map .ct else k) (ocl vw rd) := by
  obtain ⟨t, p, hc⟩ := hc
  obtain ⟨t1, p1, h⟩ := h
  obtain ⟨t2, p2, hr⟩ := hr
  refine ⟨_, pss_cons (ps_if p p1 pss_nil) p2, fun b hb B F0 σ H vs ds D s g => ?_⟩
  obtain ⟨q, hq, hb⟩ := Option.bind_eq_some_iff.mp hb
  refine hc q hq B F0 σ H vs ds _ s fun H1 s1 => ?_
  cases q with
  | true =>
    obtain ⟨r, hm, rfl⟩ := Option.map_eq_some_iff.mp (show m.map Fl.ct = some b by simpa using hb)
    exact iteT (h r hm B F0 σ H1 vs ds _ s1 g)
  | false => exact iteF (hr b (by simpa using hb) B F0 σ H1 vs ds D s1 g)
theorem b_ifbk {R : Type} {vw : Vw S} {rd : Rd R} {o : Option Bool} {m : Option S} {k : Option (Fl S R)} (hc : TX X c ρ L o) (h : BX X A ρ L m (fun s => .bk (vw s).1 (vw s).2)) (hr : BX X rest ρ L k (ocl vw rd)) : BX X (.If c A [] pos :: rest) ρ L (o.bind fun q => if q then m.map .bk else k) (ocl vw rd) := by
  obtain ⟨t, p, hc⟩ := hc
  obtain ⟨t1, p1, h⟩ := h
  obtain ⟨t2, p2, hr⟩ := hr
  refine ⟨_, pss_cons (ps_if p p1 pss_nil) p2, fun b hb B F0 σ H vs ds D s g => ?_⟩
  obtain ⟨q, hq, hb⟩ := Option.bind_eq_some_iff.mp hb
  refine hc q hq B F0 σ H vs ds _ s fun H1 s1 => ?_
  cases q with
  | true =>
    obtain ⟨r, hm, rfl⟩ := Option.map_eq_some_iff.mp (show m.map Fl.bk = some b by simpa using hb)
    exact iteT (h r hm B F0 σ H1 vs ds _ s1 g)
  | false => exact iteF (hr b (by simpa using hb) B F0 σ H1 vs ds D s1 g)
/-- .. with an else that goes on into the rest by one state -/
theorem b_if {vw : Vw S} {o : Option Bool} {m m' : Option S} {k : S → Option β} (hc : TX X c ρ L o) (h : BX X A ρ L m (ocn vw)) (h' : BX X A' ρ L m' (ocn vw)) (hr : ∀ s, BX X rest (vw s).1 (vw s).2 (k s) oc) :
    BX X (.If c A A' pos :: rest) ρ L ((o.bind fun q => if q then m else m').bind k) oc := b_step (s_if hc h h') hr

/-! ### what a loop walks -/
/-- J yields xs, as long as the values pv of the slots pd are held and what is owned is as PL says -/
def Walk (K : PySem.W.Frag) (J : It) (pv : List V) (pd : List Sl) (PL : Ow → Prop) (e : α → Sl) (xs : List α) : Prop :=
  ∀ B F0 ρ L σ H vs ds i, PL L → St K B F0 ρ L σ H (pv ++ vs) (pd ++ ds) → (i = xs.length → J.stop i H) ∧ ∀ x, xs[i]? = some x → J.go i H ∧ ∀ y H', J.yld i H y H' → St K B F0 ρ L σ H' (y :: (pv ++ vs)) (e x :: (pd ++ ds))
def IX (X : Cx) (tg iter : Expr) (ρ : Env) (L : Ow) (PL : Ow → Prop) (lim : Bool) (e : α → Sl) (o : Option (List α)) : Prop :=
  ∃ wi, PI X tg iter wi ∧ ∀ xs, o = some xs → ∀ B F0 σ H vs ds R, St X.K B F0 ρ L σ H vs ds →
    (∀ J H1 pv pd, pv.length = pd.length → (lim = true → xs.length ≤ sizeLine) → St X.K B F0 ρ L σ H1 (pv ++ vs) (pd ++ ds) → Walk X.K J pv pd PL e xs → R J H1) → wi σ H R
abbrev anyL : Ow → Prop := fun _ => True
theorem IX.conv {tg iter : Expr} {PL : Ow → Prop} {lim : Bool} {e : α → Sl} {o o' : Option (List α)} (h : IX X tg iter ρ L PL lim e o) (q : o = o') : IX X tg iter ρ L PL lim e o' := q ▸ h

/-! ### for -/
theorem s_for {R : Type} {rd : Rd R} {vw : Vw S} {tg iter : Expr} {body : List Stmt} {PL : Ow → Prop} {lim : Bool} {en : α → Sl} {o : Option (List α)} {f : S → α → Option (Fl S R)} {ρb : S → α → Env} {s0 : S} {bs : List Bool} {M1 M2 : Ow} (hp : PassesOwn (model X.prog X.w) X.A X.env X.xe) (hc : X.calm = true)
    (hi : IX X tg iter ρ L PL lim en o) (hg : ∀ s x, GX X tg (vw s).1 (vw s).2 (en x) (ρb s x)) (hb : ∀ s x, BX X body (ρb s x) (vw s).2 (f s x) (ocl vw rd)) (hPL : ∀ s, PL (vw s).2) (h0 : vw s0 = (mask bs ρ, M1)) (hL : L = M1 ++ M2 := by rfl)
    (hs : ∀ x, foldedSetIterable iter X.env x = pure x := by intro _; rfl) :
    SX X (.For tg iter body [] pos) ρ L (o.bind fun xs => forO f xs s0) (ocx vw rd) := by
  obtain ⟨wi, pi, hi⟩ := hi
  obtain ⟨g, pg, hg⟩ := GX.all (S := S × α) (ρf := fun q => (vw q.1).1) (Lf := fun q => (vw q.1).2) (sf := fun q => en q.2) (ρf' := fun q => ρb q.1 q.2) fun q => hg q.1 q.2
  obtain ⟨tb, pb, hb⟩ := BX.all (S := S × α) (ρf := fun q => ρb q.1 q.2) (Lf := fun q => (vw q.1).2) (k := fun q => f q.1 q.2) fun q => hb q.1 q.2
  refine ⟨_, ps_for hp hc pi pg pb hs, fun b hm B F0 σ H vs ds D s gd => ?_⟩
  obtain ⟨xs, hx, hm⟩ := Option.bind_eq_some_iff.mp hm
  refine hi xs hx B F0 σ H vs ds _ s fun J H1 pv pd hl _ s1 w => ?_
  refine ⟨fun i m σ H => m = xs.length - i ∧ i ≤ xs.length ∧ ∃ t, forO f (xs.drop i) t = some b ∧ St X.K B F0 (vw t).1 (vw t).2 σ H (pv ++ vs) (pd ++ ds), ⟨_, rfl, Nat.zero_le _, s0, hm, ?_⟩, ?_⟩
  · rw [h0]
    subst hL
    exact (s1.mask bs).part
  rintro i m σ2 H2 ⟨rfl, hi2, t, ht, s2⟩
  obtain ⟨w1, w2⟩ := w B F0 _ _ σ2 H2 vs ds i (hPL t) s2
  have popn : ∀ {ρ : Env} {L : Ow} {σ : L2.St} {H : Hp}, St X.K B F0 ρ L σ H (pv ++ vs) (pd ++ ds) → St X.K B F0 ρ L σ H vs ds := fun q => q.stack fun F r => (pr_split hl r).2
  by_cases hlt : i < xs.length
  · obtain ⟨go, yl⟩ := w2 xs[i] (List.getElem?_eq_getElem hlt)
    rw [List.drop_eq_getElem_cons hlt] at ht
    obtain ⟨r, hr, ht⟩ := Option.bind_eq_some_iff.mp ht
    refine .inr ⟨go, fun σ' H' => ∃ t', forO f (xs.drop (i + 1)) t' = some b ∧ St X.K B F0 (vw t').1 (vw t').2 σ' H' (pv ++ vs) (pd ++ ds), fun σ' H' q => ⟨xs.length - (i + 1), by omega, rfl, hlt, q⟩, fun y H' hy => ?_⟩
    refine hg (t, xs[i]) B F0 σ2 H' y _ _ _ (yl y H' hy) fun σ3 H3 s3 => ?_
    refine hb (t, xs[i]) r hr B F0 σ3 H3 _ _ _ s3 ?_
    cases r with
    | nx t' => exact fun σ' H' q => ⟨t', ht, q⟩
    | ct t' => exact fun σ' H' q => ⟨t', ht, q⟩
    | bk t' =>
      have e : Fx.go t' = b := by simpa using ht
      subst e
      exact fun σ' H' q => gd σ' H' (popn q)
    | ex b' =>
      have e : Fx.ex b' = b := by simpa using ht
      subst e
      exact fun v H' q => gd v H' (q.stack fun F r => by cases r with | cons r1 r2 => exact .cons r1 (pr_split hl r2).2)
  · have e : i = xs.length := by omega
    have e2 : xs.drop i = [] := by rw [e]; exact List.drop_length
    rw [e2] at ht
    have e3 : Fx.go t = b := by simpa [forO] using ht
    subst e3
    exact .inl ⟨w1 e, gd σ2 H2 (popn s2)⟩
/-- .. whose body always goes on -/
theorem s_fold {vw : Vw S} {tg iter : Expr} {body : List Stmt} {PL : Ow → Prop} {lim : Bool} {en : α → Sl} {o : Option (List α)} {f : S → α → Option S} {ρb : S → α → Env} {s0 : S} {bs : List Bool} {M1 M2 : Ow} (hp : PassesOwn (model X.prog X.w) X.A X.env X.xe) (hc : X.calm = true)
    (hi : IX X tg iter ρ L PL lim en o) (hg : ∀ s x, GX X tg (vw s).1 (vw s).2 (en x) (ρb s x)) (hb : ∀ s x, BX X body (ρb s x) (vw s).2 (f s x) (ocn vw)) (hPL : ∀ s, PL (vw s).2) (h0 : vw s0 = (mask bs ρ, M1)) (hL : L = M1 ++ M2 := by rfl)
    (hs : ∀ x, foldedSetIterable iter X.env x = pure x := by intro _; rfl) :
    SX X (.For tg iter body [] pos) ρ L (o.bind fun xs => foldO f xs s0) (ocn vw) := by
  have hb' : ∀ s x, BX X body (ρb s x) (vw s).2 ((f s x).map Fl.nx) (ocl vw (fun r : Empty => nomatch r)) := fun s x => by
    obtain ⟨t, p, h⟩ := hb s x
    refine ⟨t, p, fun b e => ?_⟩
    obtain ⟨y, hy, rfl⟩ := Option.map_eq_some_iff.mp e
    exact h y hy
  obtain ⟨t, p, h⟩ := s_for (f := fun s x => (f s x).map Fl.nx) (s0 := s0) hp hc hi hg hb' hPL h0 hL hs
  have key : ∀ (xs : List α) (s r : S), foldO f xs s = some r → forO (fun s x => (f s x).map (Fl.nx (R := Empty))) xs s = some (.go r) := by
    intro xs
    induction xs with
    | nil => intro s r e; simpa [foldO, forO] using e
    | cons x xs ih =>
      intro s r e
      obtain ⟨y, hy, e⟩ := Option.bind_eq_some_iff.mp e
      show ((f s x).map Fl.nx).bind _ = _
      rw [hy]
      exact ih y r e
  refine ⟨t, p, fun b e => h (.go b) ?_⟩
  obtain ⟨xs, hx, e⟩ := Option.bind_eq_some_iff.mp e
  rw [hx]
  exact key xs s0 b e

/-! ### while -/
theorem s_while {R : Type} {rd : Rd R} {vw : Vw S} {body : List Stmt} {cf : S → Option Bool} {f : S → Option (Fl S R)} {n : Nat} {s0 : S} {bs : List Bool} {M1 M2 : Ow} (hp : PassesOwn (model X.prog X.w) X.A X.env X.xe)
    (hcn : ∀ s, TX X c (vw s).1 (vw s).2 (cf s)) (hb : ∀ s, BX X body (vw s).1 (vw s).2 (f s) (ocl vw rd)) (h0 : vw s0 = (mask bs ρ, M1)) (hL : L = M1 ++ M2 := by rfl) :
    SX X (.While c body [] pos) ρ L (whileO cf f n s0) (ocx vw rd) := by
  obtain ⟨tc, pc, hcn⟩ := TX.all hcn
  obtain ⟨tb, pb, hb⟩ := BX.all hb
  refine ⟨_, ps_while hp pc pb, fun b hm B F0 σ H vs ds D s gd => ?_⟩
  refine ⟨fun m σ H => ∃ t, whileO cf f m t = some b ∧ St X.K B F0 (vw t).1 (vw t).2 σ H vs ds, ⟨n, s0, hm, ?_⟩, ?_⟩
  · rw [h0]
    subst hL
    exact (s.mask bs).part
  rintro m σ2 H2 ⟨t, ht, s2⟩
  cases m with
  | zero => exact absurd ht (by simp [whileO])
  | succ m =>
    obtain ⟨k, hk, ht⟩ := Option.bind_eq_some_iff.mp ht
    refine hcn t k hk B F0 σ2 H2 vs ds _ s2 fun H3 s3 => ?_
    cases k with
    | true =>
      have ht' := ht
      rw [if_pos rfl] at ht'
      obtain ⟨r, hr, ht'⟩ := Option.bind_eq_some_iff.mp ht'
      refine iteT ⟨fun σ' H' => ∃ t', whileO cf f m t' = some b ∧ St X.K B F0 (vw t').1 (vw t').2 σ' H' vs ds, fun σ' H' q => ⟨m, Nat.lt_succ_self m, q⟩, ?_⟩
      refine hb t r hr B F0 σ2 H3 vs ds _ s3 ?_
      cases r with
      | nx t' => exact fun σ' H' q => ⟨t', ht', q⟩
      | ct t' => exact fun σ' H' q => ⟨t', ht', q⟩
      | bk t' =>
        have e : Fx.go t' = b := by simpa using ht'
        subst e
        exact fun σ' H' q => gd σ' H' q
      | ex b' =>
        have e : Fx.ex b' = b := by simpa using ht'
        subst e
        exact fun v H' q => gd v H' q
    | false =>
      have e : Fx.go t = b := by simpa using ht
      subst e
      exact iteF (gd σ2 H3 s3)
/-- .. whose body always goes on -/
def loopO {S : Type} (c : S → Option Bool) (f : S → Option S) : Nat → S → Option S
  | 0, _ => none
  | n + 1, s => (c s).bind fun k => if k then (f s).bind (loopO c f n) else some s
theorem s_loop {vw : Vw S} {body : List Stmt} {cf : S → Option Bool} {f : S → Option S} {n : Nat} {s0 : S} {bs : List Bool} {M1 M2 : Ow} (hp : PassesOwn (model X.prog X.w) X.A X.env X.xe)
    (hcn : ∀ s, TX X c (vw s).1 (vw s).2 (cf s)) (hb : ∀ s, BX X body (vw s).1 (vw s).2 (f s) (ocn vw)) (h0 : vw s0 = (mask bs ρ, M1)) (hL : L = M1 ++ M2 := by rfl) :
    SX X (.While c body [] pos) ρ L (loopO cf f n s0) (ocn vw) := by
  have hb' : ∀ s, BX X body (vw s).1 (vw s).2 ((f s).map Fl.nx) (ocl vw (fun r : Empty => nomatch r)) := fun s => by
    obtain ⟨t, p, h⟩ := hb s
    refine ⟨t, p, fun b e => ?_⟩
    obtain ⟨y, hy, rfl⟩ := Option.map_eq_some_iff.mp e
    exact h y hy
  obtain ⟨t, p, h⟩ := s_while (pos := pos) (f := fun s => (f s).map Fl.nx) (n := n) (s0 := s0) hp hcn hb' h0 hL
  have key : ∀ (n : Nat) (s r : S), loopO cf f n s = some r → whileO cf (fun s => (f s).map (Fl.nx (R := Empty))) n s = some (.go r) := by
    intro n
    induction n with
    | zero => intro s r e; simp [loopO] at e
    | succ n ih =>
      intro s r e
      obtain ⟨k, hk, e⟩ := Option.bind_eq_some_iff.mp e
      show (cf s).bind _ = _
      rw [hk]
      cases k with
      | false => simpa using e
      | true =>
        rw [if_pos rfl] at e
        obtain ⟨y, hy, e⟩ := Option.bind_eq_some_iff.mp e
        simp only [Option.bind_some, if_true, hy, Option.map_some]
        exact ih y r e
  exact ⟨t, p, fun b e => h (.go b) (key n s0 b e)⟩
end
end Mir
namespace Mir
open PySem L2

/-! ### the iterables -/
section
variable {K : PySem.W.Frag} {B F0 H : Hp} {L : Ow} {ρ : Env} {σ : L2.St} {vs us pv : List V} {ds es pd : List Sl} {α β : Type}
/-- one of those on the stack, on top -/
theorem St.pick {xs : List Sl} {i : Nat} {s : Sl} (h : St K B F0 ρ L σ H (us ++ vs) (xs ++ ds)) (e : us.length = xs.length) (hx : xs[i]? = some s) : ∃ y, us[i]? = some y ∧ St K B F0 ρ L σ H (y :: vs) (s :: ds) := by
  obtain ⟨F, k, a, b⟩ := h
  obtain ⟨b1, b2⟩ := pr_split e b
  obtain ⟨y, hy, r⟩ := pr_get b1 hx
  exact ⟨y, hy, F, k, a, .cons r b2⟩
theorem walk_lst {a : Addr} {d : α → PyData} {xs : List α} (hv : pv = [.ref a]) (hd : pd = [.dat (.list (xs.map d))]) : Walk K (Itl K a) pv pd anyL (fun x => .dat (d x)) xs := by
  subst hv hd
  intro B F0 ρ L σ H vs ds i _ s
  obtain ⟨a', us, e, h1, h2, _, h3⟩ := s.lst1
  cases e
  rw [List.length_map] at h2
  refine ⟨fun e => ⟨us, SqL.of h1, by omega⟩, fun x hx => ?_⟩
  obtain ⟨y, hy, s4⟩ := h3.pick (by rw [List.length_map, List.length_map]; exact h2) (show ((xs.map d).map Sl.dat)[i]? = some (.dat (d x)) by simp [hx])
  refine ⟨⟨us, y, SqL.of h1, hy⟩, fun z H' hz => ?_⟩
  obtain ⟨rfl, hz⟩ := hz
  have e2 := hz us (SqL.of h1)
  rw [hy] at e2
  cases e2
  exact s4
theorem walk_tup {a : Addr} {d : α → PyData} {xs : List α} (hv : pv = [.ref a]) (hd : pd = [.dat (.tuple (xs.map d))]) : Walk K (Itt K a) pv pd anyL (fun x => .dat (d x)) xs := by
  subst hv hd
  intro B F0 ρ L σ H vs ds i _ s
  obtain ⟨a', us, e, h1, h2, _, h3⟩ := s.tup1
  cases e
  rw [List.length_map] at h2
  refine ⟨fun e => ⟨us, SqT.of h1, by omega⟩, fun x hx => ?_⟩
  obtain ⟨y, hy, s4⟩ := h3.pick (by rw [List.length_map, List.length_map]; exact h2) (show ((xs.map d).map Sl.dat)[i]? = some (.dat (d x)) by simp [hx])
  refine ⟨⟨us, y, SqT.of h1, hy⟩, fun z H' hz => ?_⟩
  obtain ⟨rfl, hz⟩ := hz
  have e2 := hz us (SqT.of h1)
  rw [hy] at e2
  cases e2
  exact s4
theorem walk_own {a : Addr} {d : α → PyData} {xs : List α} : Walk K (Itl K a) [] [] (fun L => (a, OD.lst ((xs.map d).map .dat)) ∈ L) (fun x => .dat (d x)) xs := by
  intro B F0 ρ L σ H vs ds i hL s
  obtain ⟨us, h1, h2, _, h3⟩ := s.own1 hL
  have h2' : us.length = xs.length := by rw [h2, List.length_map, List.length_map]
  refine ⟨fun e => ⟨us, SqL.of h1, by omega⟩, fun x hx => ?_⟩
  obtain ⟨y, hy, s4⟩ := h3.pick h2 (show ((xs.map d).map Sl.dat)[i]? = some (.dat (d x)) by simp [hx])
  refine ⟨⟨us, y, SqL.of h1, hy⟩, fun z H' hz => ?_⟩
  obtain ⟨rfl, hz⟩ := hz
  have e2 := hz us (SqL.of h1)
  rw [hy] at e2
  cases e2
  exact s4
theorem walk_rng {lo : Int} {n : Nat} {xs : List Int} (hx : xs = (List.range n).map fun i => lo + (i : Nat)) : Walk K (Itr lo n) [] [] anyL (fun x => .dat (dI x)) xs := by
  intro B F0 ρ L σ H vs ds i _ s
  subst hx
  refine ⟨fun e => ?_, fun x hx => ?_⟩
  · rw [List.length_map, List.length_range] at e
    show n ≤ i
    omega
  · rw [List.getElem?_map] at hx
    obtain ⟨j, hj, rfl⟩ := Option.map_eq_some_iff.mp hx
    obtain ⟨h1, h2⟩ := List.getElem?_eq_some_iff.mp hj
    rw [List.length_range] at h1
    rw [List.getElem_range] at h2
    subst h2
    exact ⟨h1, fun y H' hy => by obtain ⟨rfl, rfl⟩ := hy; exact s.int⟩
theorem walk_revL {a : Addr} {d : α → PyData} {xs : List α} (hv : pv = [.ref a]) (hd : pd = [.dat (.list (xs.map d))]) : Walk K (Itv K a xs.length) pv pd anyL (fun x => .dat (d x)) xs.reverse := by
  subst hv hd
  intro B F0 ρ L σ H vs ds i _ s
  obtain ⟨a', us, e, h1, h2, _, h3⟩ := s.lst1
  cases e
  rw [List.length_map] at h2
  refine ⟨fun e => ?_, fun x hx => ?_⟩
  · rw [List.length_reverse] at e
    show xs.length ≤ i
    omega
  · have hi : i < xs.length := by
      have := (List.getElem?_eq_some_iff.mp hx).1
      rw [List.length_reverse] at this
      exact this
    rw [List.getElem?_reverse hi] at hx
    obtain ⟨y, hy, s4⟩ := h3.pick (by rw [List.length_map, List.length_map]; exact h2) (show ((xs.map d).map Sl.dat)[xs.length - 1 - i]? = some (.dat (d x)) by simp [hx])
    refine ⟨⟨hi, us, y, SqL.of h1, hy⟩, fun z H' hz => ?_⟩
    obtain ⟨rfl, hz⟩ := hz
    have e2 := hz us (SqL.of h1)
    rw [hy] at e2
    cases e2
    exact s4
theorem walk_revT {a : Addr} {d : α → PyData} {xs : List α} (hv : pv = [.ref a]) (hd : pd = [.dat (.tuple (xs.map d))]) : Walk K (RT.ItvT K a xs.length) pv pd anyL (fun x => .dat (d x)) xs.reverse := by
  subst hv hd
  intro B F0 ρ L σ H vs ds i _ s
  obtain ⟨a', us, e, h1, h2, _, h3⟩ := s.tup1
  cases e
  rw [List.length_map] at h2
  refine ⟨fun e => ?_, fun x hx => ?_⟩
  · rw [List.length_reverse] at e
    show xs.length ≤ i
    omega
  · have hi : i < xs.length := by
      have := (List.getElem?_eq_some_iff.mp hx).1
      rw [List.length_reverse] at this
      exact this
    rw [List.getElem?_reverse hi] at hx
    obtain ⟨y, hy, s4⟩ := h3.pick (by rw [List.length_map, List.length_map]; exact h2) (show ((xs.map d).map Sl.dat)[xs.length - 1 - i]? = some (.dat (d x)) by simp [hx])
    refine ⟨⟨hi, us, y, SqT.of h1, hy⟩, fun z H' hz => ?_⟩
    obtain ⟨rfl, hz⟩ := hz
    have e2 := hz us (SqT.of h1)
    rw [hy] at e2
    cases e2
    exact s4
def enumI {α : Type} (xs : List α) : List (Int × α) := ((List.range xs.length).zip xs).map fun p => ((p.1 : Int), p.2)
theorem enumI_get {xs : List α} {i : Nat} {p : Int × α} (h : (enumI xs)[i]? = some p) : ∃ x, xs[i]? = some x ∧ p = ((i : Int), x) := by
  unfold enumI at h
  rw [List.getElem?_map] at h
  obtain ⟨⟨j, x⟩, hj, rfl⟩ := Option.map_eq_some_iff.mp h
  obtain ⟨h1, h2⟩ := List.getElem?_zip_eq_some.mp hj
  obtain ⟨h3, h4⟩ := List.getElem?_eq_some_iff.mp h1
  rw [List.getElem_range] at h4
  exact ⟨x, h2, by simp [h4]⟩
theorem enumI_length (xs : List α) : (enumI xs).length = xs.length := by unfold enumI; simp
theorem walk_enum {a : Addr} {d : α → PyData} {xs : List α} (hv : pv = [.ref a]) (hd : pd = [.dat (.list (xs.map d))]) : Walk K (Ite K a) pv pd anyL (fun x => .dat (dP dI d x)) (enumI xs) := by
  subst hv hd
  intro B F0 ρ L σ H vs ds i _ s
  obtain ⟨a', us, e, h1, h2, _, h3⟩ := s.lst1
  cases e
  rw [List.length_map] at h2
  refine ⟨fun e => ⟨us, SqL.of h1, by rw [enumI_length] at e; omega⟩, fun p hp => ?_⟩
  obtain ⟨x, hx, rfl⟩ := enumI_get hp
  obtain ⟨y, hy, s4⟩ := h3.pick (by rw [List.length_map, List.length_map]; exact h2) (show ((xs.map d).map Sl.dat)[i]? = some (.dat (d x)) by simp [hx])
  refine ⟨⟨us, y, SqL.of h1, hy⟩, fun z H' hz => ?_⟩
  obtain ⟨T, y', rfl, hT, rfl, hz⟩ := hz
  have e2 := hz us (SqL.of h1)
  rw [hy] at e2
  cases e2
  exact St.newTup (xs := [.int (i : Nat), d x]) (us := [.int (i : Nat), y]) s4.int rfl hT (sz_of (by decide : 2 ≤ 1000))
theorem zip_get {xs : List α} {ys : List β} {i : Nat} {p : α × β} (h : (xs.zip ys)[i]? = some p) : xs[i]? = some p.1 ∧ ys[i]? = some p.2 := List.getElem?_zip_eq_some.mp h
end

section
variable {X : Cx} {α β γ δ S T : Type} {tg e e2 a b : Expr} {ρ ρ' : Env} {L : Ow} {p pos tpos : Pos} {d : α → PyData} {d' : β → PyData}
theorem St.len1 {K : PySem.W.Frag} {B F0 H : Hp} {σ : L2.St} {v : V} {vs : List V} {ds : List Sl} {xs : List PyData} (h : St K B F0 ρ L σ H (v :: vs) (.dat (.list xs) :: ds)) : xs.length ≤ sizeLine := by
  obtain ⟨_, us, _, _, h2, h3, _⟩ := h.lst1
  omega
theorem St.len2 {K : PySem.W.Frag} {B F0 H : Hp} {σ : L2.St} {v : V} {vs : List V} {ds : List Sl} {xs : List PyData} (h : St K B F0 ρ L σ H (v :: vs) (.dat (.tuple xs) :: ds)) : xs.length ≤ sizeLine := by
  obtain ⟨_, us, _, _, h2, h3, _⟩ := h.tup1
  omega
/-- a list that is data, a tuple, an owned list, the script -/
theorem i_lst {o : Option (List α)} (h : EX X (dL d) e ρ L o) : IX X tg e ρ L anyL true (fun x => .dat (d x)) o := by
  obtain ⟨t, q, h⟩ := h
  refine ⟨_, pi_list q, fun xs hx B F0 σ H vs ds R s k => h xs hx B F0 σ H vs ds _ s fun v H1 s1 => ?_⟩
  obtain ⟨a, us, rfl, h1, h2, h2', h3⟩ := s1.lst1
  exact ⟨a, rfl, ⟨us, SqL.of h1⟩, k _ H1 [.ref a] [.dat (.list (xs.map d))] rfl (fun _ => by rw [List.length_map] at h2; omega) s1 (walk_lst rfl rfl)⟩
theorem i_tup {o : Option (List α)} (h : EX X (dT d) e ρ L o) : IX X tg e ρ L anyL true (fun x => .dat (d x)) o := by
  obtain ⟨t, q, h⟩ := h
  refine ⟨_, pi_tup q, fun xs hx B F0 σ H vs ds R s k => h xs hx B F0 σ H vs ds _ s fun v H1 s1 => ?_⟩
  obtain ⟨a, us, rfl, h1, h2, h2', h3⟩ := s1.tup1
  exact ⟨a, rfl, ⟨us, SqT.of h1⟩, k _ H1 [.ref a] [.dat (.tuple (xs.map d))] rfl (fun _ => by rw [List.length_map] at h2; omega) s1 (walk_tup rfl rfl)⟩
theorem i_own {p : Addr} {xs : List α} (h : ES X e ρ L (some (.ptr p))) (m : (p, OD.lst ((xs.map d).map .dat)) ∈ L) : IX X tg e ρ L (fun L => (p, OD.lst ((xs.map d).map .dat)) ∈ L) true (fun x => .dat (d x)) (some xs) := by
  obtain ⟨t, q, h⟩ := h
  refine ⟨_, pi_list q, fun ys hy B F0 σ H vs ds R s k => h _ rfl B F0 σ H vs ds _ s fun v H1 s1 => ?_⟩
  cases hy
  have e := s1.isPtr
  obtain ⟨us, h1, h2, h2', _⟩ := s1.pop.own1 m
  exact ⟨p, e, ⟨us, SqL.of h1⟩, k _ H1 [] [] rfl (fun _ => by rw [List.length_map, List.length_map] at h2; omega) s1.pop walk_own⟩
theorem i_scr {ns : List Int} (h : ES X e ρ L (some (.scr ns))) : IX X tg e ρ L anyL false (fun x => .dat (dI x)) (some ns) := by
  obtain ⟨t, q, h⟩ := h
  refine ⟨_, pi_list q, fun ys hy B F0 σ H vs ds R s k => h _ rfl B F0 σ H vs ds _ s fun v H1 s1 => ?_⟩
  cases hy
  obtain ⟨F, ok, sl, sv⟩ := id s1
  cases sv with
  | cons r t =>
    obtain ⟨a, rfl, hq⟩ := r
    refine ⟨a, rfl, ⟨_, ok.le.seq hq⟩, k _ H1 [.ref a] [.scr ns] rfl (fun z => by cases z) s1 ?_⟩
    intro B F0 ρ L σ H vs ds i _ s
    obtain ⟨F, ok, sl, sv⟩ := id s
    cases sv with
    | cons r t =>
      obtain ⟨a', e, hq⟩ := r
      cases e
      have hq' := ok.le.seq hq
      refine ⟨fun e => ⟨_, hq', by simp [e]⟩, fun x hx => ?_⟩
      have hx' : (ns.map V.int)[i]? = some (.int x) := by simp [hx]
      refine ⟨⟨_, _, hq', hx'⟩, fun z H' hz => ?_⟩
      obtain ⟨rfl, hz⟩ := hz
      have e2 := hz _ hq'
      rw [hx'] at e2
      cases e2
      exact s.int
theorem bigI_iff {a : Int} (h : bigI a = true) : -(2 ^ 62) ≤ a ∧ a < 2 ^ 62 := by
  unfold bigI at h
  simp only [Bool.and_eq_true, decide_eq_true_eq] at h
  exact h
theorem rngO_some {a b : Int} {xs : List Int} (h : rngO a b = some xs) : bigI a = true ∧ bigI b = true ∧ xs = rng a b := by
  unfold rngO at h
  split at h
  · rename_i c
    rw [Bool.and_eq_true] at c
    cases h
    exact ⟨c.1, c.2, rfl⟩
  · cases h
theorem rngL_some {a b : Int} {xs : List Int} (h : rngL a b = some xs) : bigI a = true ∧ bigI b = true ∧ (b - a).toNat ≤ 16777216 ∧ xs = rng a b := by
  unfold rngL at h
  split at h
  · rename_i c
    cases h
    exact ⟨c.1.1, c.1.2, c.2, rfl⟩
  · cases h
theorem rng_length (a b : Int) : (rng a b).length = (b - a).toNat := by unfold rng; simp
theorem i_range {o : Option Int} (h : EX X dI e ρ L o) (hm : X.mg "range" = none) (hg : Gl X "range" := by rfl) (hs : starEach [e] X.env = [(false, eval e X.env)] := by rfl) (hs2 : starEach [e] X.env = (false, eval e X.env) :: starEach [] X.env := by rfl) : IX X tg (.Call (.Name "range" p) [e] [] pos) ρ L anyL false (fun x => .dat (dI x)) (o.bind fun n => rngO 0 n) := by
  obtain ⟨t, q, h⟩ := h
  refine ⟨_, pi_range1 hg hm (pa_cons q pa_nil hs2) hs, fun xs hx B F0 σ H vs ds R s k => ?_⟩
  obtain ⟨n, hn, hx⟩ := Option.bind_eq_some_iff.mp hx
  obtain ⟨_, h2, h3⟩ := rngO_some hx
  refine h n hn B F0 σ H vs ds _ s fun v H1 s1 => ?_
  refine ⟨n, by rw [s1.isInt], (bigI_iff h2).1, (bigI_iff h2).2, k _ H1 [] [] rfl (fun z => by cases z) s1.pop (walk_rng ?_)⟩
  rw [h3]
  unfold rng
  rw [Int.sub_zero]
theorem i_range2 {o o' : Option Int} (h : EX X dI a ρ L o) (h' : EX X dI b ρ L o') (hm : X.mg "range" = none) (hg : Gl X "range" := by rfl) (hs : starEach [a, b] X.env = [(false, eval a X.env), (false, eval b X.env)] := by rfl) (hs2 : starEach [b] X.env = [(false, eval b X.env)] := by rfl)
    (hs3 : starEach [a, b] X.env = (false, eval a X.env) :: starEach [b] X.env := by rfl) (hs4 : starEach [b] X.env = (false, eval b X.env) :: starEach [] X.env := by rfl) : IX X tg (.Call (.Name "range" p) [a, b] [] pos) ρ L anyL false (fun x => .dat (dI x)) (o.bind fun n => o'.bind fun m => rngO n m) := by
  obtain ⟨t, q, h⟩ := h
  obtain ⟨t', q', h'⟩ := h'
  refine ⟨_, pi_range2 hg hm (pa_cons q (pa_cons q' pa_nil hs4) hs3) hs hs2, fun xs hx B F0 σ H vs ds R s k => ?_⟩
  obtain ⟨n, hn, hx⟩ := Option.bind_eq_some_iff.mp hx
  obtain ⟨m, hm, hx⟩ := Option.bind_eq_some_iff.mp hx
  obtain ⟨h1, h2, h3⟩ := rngO_some hx
  refine h n hn B F0 σ H vs ds _ s fun v H1 s1 => h' m hm B F0 σ H1 _ _ _ s1 fun u H2 s2 => ?_
  refine ⟨n, m, by rw [s2.isInt, s2.pop.isInt], ⟨(bigI_iff h1).1, (bigI_iff h1).2, (bigI_iff h2).1, (bigI_iff h2).2⟩, k _ H2 [] [] rfl (fun z => by cases z) s2.pop.pop (walk_rng ?_)⟩
  rw [h3]
  all_goals rfl
/-- the same where the number of turns is to be a list's length -/
theorem IX.lim {o : Option (List Int)} {o' : Option (List Int)} (h : IX X tg e ρ L anyL false (fun x => .dat (dI x)) o) (q : ∀ xs, o' = some xs → o = some xs ∧ xs.length ≤ 16777216) : IX X tg e ρ L anyL true (fun x => .dat (dI x)) o' := by
  obtain ⟨t, p, h⟩ := h
  refine ⟨t, p, fun xs hx B F0 σ H vs ds R s k => ?_⟩
  obtain ⟨h1, h2⟩ := q xs hx
  exact h xs h1 B F0 σ H vs ds R s fun J H1 pv pd e1 _ s1 w => k J H1 pv pd e1 (fun _ => Nat.le_trans h2 (by decide)) s1 w
theorem rngL_lim {a b : Int} {xs : List Int} (h : rngL a b = some xs) : rngO a b = some xs ∧ xs.length ≤ 16777216 := by
  obtain ⟨h1, h2, h3, rfl⟩ := rngL_some h
  exact ⟨by unfold rngO; rw [h1, h2]; exact if_pos rfl, by rw [rng_length]; exact h3⟩
theorem i_rangeL {o : Option Int} (h : EX X dI e ρ L o) (hm : X.mg "range" = none) (hg : Gl X "range" := by rfl) (hs : starEach [e] X.env = [(false, eval e X.env)] := by rfl) (hs2 : starEach [e] X.env = (false, eval e X.env) :: starEach [] X.env := by rfl) : IX X tg (.Call (.Name "range" p) [e] [] pos) ρ L anyL true (fun x => .dat (dI x)) (o.bind fun n => rngL 0 n) :=
  (i_range h hm hg hs hs2).lim fun xs hx => by
    obtain ⟨n, hn, hx⟩ := Option.bind_eq_some_iff.mp hx
    exact ⟨by rw [hn]; exact (rngL_lim hx).1, (rngL_lim hx).2⟩
theorem i_range2L {o o' : Option Int} (h : EX X dI a ρ L o) (h' : EX X dI b ρ L o') (hm : X.mg "range" = none) (hg : Gl X "range" := by rfl) (hs : starEach [a, b] X.env = [(false, eval a X.env), (false, eval b X.env)] := by rfl) (hs2 : starEach [b] X.env = [(false, eval b X.env)] := by rfl)
    (hs3 : starEach [a, b] X.env = (false, eval a X.env) :: starEach [b] X.env := by rfl) (hs4 : starEach [b] X.env = (false, eval b X.env) :: starEach [] X.env := by rfl) : IX X tg (.Call (.Name "range" p) [a, b] [] pos) ρ L anyL true (fun x => .dat (dI x)) (o.bind fun n => o'.bind fun m => rngL n m) :=
  (i_range2 h h' hm hg hs hs2 hs3 hs4).lim fun xs hx => by
    obtain ⟨n, hn, hx⟩ := Option.bind_eq_some_iff.mp hx
    obtain ⟨m, hm, hx⟩ := Option.bind_eq_some_iff.mp hx
    exact ⟨by rw [hn, hm]; exact (rngL_lim hx).1, (rngL_lim hx).2⟩
/-- reversed(..) -/
theorem i_revL {o : Option (List α)} (h : EX X (dL d) e ρ L o) (hm : X.mg "reversed" = none) (hg : Gl X "reversed" := by rfl) (hs : starEach [e] X.env = (false, eval e X.env) :: starEach [] X.env := by rfl) : IX X tg (.Call (.Name "reversed" p) [e] [] pos) ρ L anyL true (fun x => .dat (d x)) (o.map List.reverse) := by
  obtain ⟨t, q, h⟩ := h
  refine ⟨_, RT.pi_revA hg hm q hs, fun xs hx B F0 σ H vs ds R s k => ?_⟩
  obtain ⟨ys, hy, rfl⟩ := Option.map_eq_some_iff.mp hx
  refine h ys hy B F0 σ H vs ds _ s fun v H1 s1 => ?_
  obtain ⟨a, us, rfl, h1, h2, h2', h3⟩ := s1.lst1
  rw [List.length_map] at h2
  refine ⟨a, us, rfl, .inl ⟨SqL.of h1, ?_⟩⟩
  rw [h2]
  exact k _ H1 [.ref a] [.dat (.list (ys.map d))] rfl (fun _ => by rw [List.length_reverse]; omega) s1 (walk_revL rfl rfl)
theorem i_revT {o : Option (List α)} (h : EX X (dT d) e ρ L o) (hm : X.mg "reversed" = none) (hg : Gl X "reversed" := by rfl) (hs : starEach [e] X.env = (false, eval e X.env) :: starEach [] X.env := by rfl) : IX X tg (.Call (.Name "reversed" p) [e] [] pos) ρ L anyL true (fun x => .dat (d x)) (o.map List.reverse) := by
  obtain ⟨t, q, h⟩ := h
  refine ⟨_, RT.pi_revA hg hm q hs, fun xs hx B F0 σ H vs ds R s k => ?_⟩
  obtain ⟨ys, hy, rfl⟩ := Option.map_eq_some_iff.mp hx
  refine h ys hy B F0 σ H vs ds _ s fun v H1 s1 => ?_
  obtain ⟨a, us, rfl, h1, h2, h2', h3⟩ := s1.tup1
  rw [List.length_map] at h2
  refine ⟨a, us, rfl, .inr ⟨SqT.of h1, ?_⟩⟩
  rw [h2]
  exact k _ H1 [.ref a] [.dat (.tuple (ys.map d))] rfl (fun _ => by rw [List.length_reverse]; omega) s1 (walk_revT rfl rfl)
/-- enumerate(..) of a list -/
theorem i_enum {o : Option (List α)} {elts : List Expr} {kk : Nat} (h : EX X (dL d) e ρ L o) (hm : X.mg "enumerate" = none) (hg : Gl X "enumerate" := by rfl) (hs : starEach [e] X.env = [(false, eval e X.env)] := by rfl) (hs2 : starEach [e] X.env = (false, eval e X.env) :: starEach [] X.env := by rfl) :
    IX X (.Tuple elts kk tpos) (.Call (.Name "enumerate" p) [e] [] pos) ρ L anyL true (fun x => .dat (dP dI d x)) (o.map enumI) := by
  obtain ⟨t, q, h⟩ := h
  refine ⟨_, pi_enum hg hm (pa_cons q pa_nil hs2) hs, fun xs hx B F0 σ H vs ds R s k => ?_⟩
  obtain ⟨ys, hy, rfl⟩ := Option.map_eq_some_iff.mp hx
  refine h ys hy B F0 σ H vs ds _ s fun v H1 s1 => ?_
  obtain ⟨a, us, rfl, h1, h2, h2', h3⟩ := s1.lst1
  rw [List.length_map] at h2
  exact ⟨a, us, rfl, SqL.of h1, k _ H1 [.ref a] [.dat (.list (ys.map d))] rfl (fun _ => by rw [enumI_length]; omega) s1 (walk_enum rfl rfl)⟩
end
end Mir
namespace Mir
open PySem L2

/-! ### mirrors of comprehensions -/
def mapO {α β : Type} (k : α → Option β) : List α → Option (List β)
  | [] => some []
  | x :: xs => (k x).bind fun y => (mapO k xs).map (y :: ·)
def filtO {α β : Type} (c : α → Option Bool) (k : α → Option β) : List α → Option (List β)
  | [] => some []
  | x :: xs => (c x).bind fun b => if b then (k x).bind fun y => (filtO c k xs).map (y :: ·) else filtO c k xs
def mapW {α β W : Type} (k : α → W → Option (β × W)) : List α → W → Option (List β × W)
  | [], w => some ([], w)
  | x :: xs, w => (k x w).bind fun y => (mapW k xs y.2).map fun r => (y.1 :: r.1, r.2)
def filtW {α β W : Type} (c : α → W → Option (Bool × W)) (k : α → W → Option (β × W)) : List α → W → Option (List β × W)
  | [], w => some ([], w)
  | x :: xs, w => (c x w).bind fun b => if b.1 then (k x b.2).bind fun y => (filtW c k xs y.2).map fun r => (y.1 :: r.1, r.2) else filtW c k xs b.2
theorem mapW_filt {α β W : Type} (k : α → W → Option (β × W)) : ∀ (xs : List α) (w : W), mapW k xs w = filtW (fun _ w => some (true, w)) k xs w
  | [], w => rfl
  | x :: xs, w => by
    show (k x w).bind _ = (some (true, w)).bind _
    rw [Option.bind_some, if_pos rfl]
    congr 1
    funext y
    rw [mapW_filt k xs]
theorem filtO_W {α β : Type} (c : α → Option Bool) (k : α → Option β) : ∀ (xs : List α), filtW (fun x (w : Unit) => (c x).map fun b => (b, w)) (fun x w => (k x).map fun y => (y, w)) xs () = (filtO c k xs).map fun ys => (ys, ())
  | [] => rfl
  | x :: xs => by
    simp only [filtW, filtO]
    cases c x with
    | none => rfl
    | some b =>
      simp only [Option.map_some, Option.bind_some]
      cases b with
      | false => simp only [Bool.false_eq_true, if_false]; exact filtO_W c k xs
      | true =>
        simp only [if_true]
        cases k x with
        | none => rfl
        | some y =>
          simp only [Option.map_some, Option.bind_some]
          rw [filtO_W c k xs]
          cases filtO c k xs <;> rfl
theorem mapO_W {α β : Type} (k : α → Option β) : ∀ (xs : List α), mapW (fun x (w : Unit) => (k x).map fun y => (y, w)) xs () = (mapO k xs).map fun ys => (ys, ())
  | [] => rfl
  | x :: xs => by
    simp only [mapW, mapO]
    cases k x with
    | none => rfl
    | some y =>
      simp only [Option.map_some, Option.bind_some]
      rw [mapO_W k xs]
      cases mapO k xs <;> rfl

/-! ### slots forgotten, slots kept over a block -/
def wipeE (ρ : Env) : List Nat → Env
  | [] => ρ
  | v :: vs => (wipeE ρ vs).set v none
theorem wipe_get {σ : L2.St} {i : Nat} : ∀ {vs : List Nat}, (wipe σ vs)[i]? = if i ∈ vs then (σ[i]?).map (fun _ => none) else σ[i]?
  | [] => by simp [wipe]
  | v :: vs => by
    unfold wipe
    by_cases h : v = i
    · subst h
      rw [if_pos (by simp)]
      have hl : (wipe σ vs).length = σ.length := wipe_length σ vs
      rw [List.getElem?_set]
      simp only [if_true, hl]
      by_cases hlt : v < σ.length
      · rw [if_pos hlt, List.getElem?_eq_getElem hlt]; rfl
      · rw [if_neg hlt, List.getElem?_eq_none (by omega)]; rfl
    · rw [List.getElem?_set_ne h, wipe_get]
      have : (i ∈ v :: vs) ↔ i ∈ vs := by
        rw [List.mem_cons]
        exact ⟨fun q => q.resolve_left fun e => h e.symm, .inr⟩
      simp only [this]
theorem wipe_set {σ : L2.St} {i : Nat} {x : Option V} {vs : List Nat} (h : i ∈ vs) : wipe (σ.set i x) vs = wipe σ vs := by
  apply List.ext_getElem?
  intro j
  rw [wipe_get, wipe_get]
  by_cases hj : j ∈ vs
  · rw [if_pos hj, if_pos hj, List.getElem?_set]
    by_cases e : i = j
    · subst e
      simp only [if_true]
      by_cases hlt : i < σ.length
      · rw [if_pos hlt, List.getElem?_eq_getElem hlt]; rfl
      · rw [if_neg hlt, List.getElem?_eq_none (by omega)]
    · rw [if_neg e]
  · have e : i ≠ j := fun z => hj (z ▸ h)
    rw [if_neg hj, if_neg hj, List.getElem?_set_ne e]
def liveV : L2.St → Env → List V
  | some v :: σ, some _ :: ρ => v :: liveV σ ρ
  | some _ :: σ, none :: ρ => liveV σ ρ
  | none :: σ, some _ :: ρ => liveV σ ρ
  | none :: σ, none :: ρ => liveV σ ρ
  | [], _ => []
  | _ :: _, [] => []
def liveS : L2.St → Env → List Sl
  | some _ :: σ, some s :: ρ => s :: liveS σ ρ
  | some _ :: σ, none :: ρ => liveS σ ρ
  | none :: σ, some _ :: ρ => liveS σ ρ
  | none :: σ, none :: ρ => liveS σ ρ
  | [], _ => []
  | _ :: _, [] => []
section
variable {K : PySem.W.Frag} {F F' F0 B H : Hp} {L : Ow} {σ σ' : L2.St} {ρ ρ' : Env} {vs : List V} {ds : List Sl}
theorem live_of {σ : L2.St} {ρ : Env} (h : Paired (SlR K F) σ ρ) : Paired (SvR K F) (liveV σ ρ) (liveS σ ρ) := by
  induction h with
  | nil => exact .nil
  | @cons a b σ ρ r t ih =>
    cases a <;> cases b <;> simp only [liveV, liveS]
    · exact ih
    · exact r.elim
    · exact ih
    · exact .cons r ih
theorem of_live {σ : L2.St} {ρ : Env} (h : Paired (SlR K F) σ ρ) : Paired (SvR K F') (liveV σ ρ) (liveS σ ρ) → Paired (SlR K F') σ ρ := by
  induction h with
  | nil => exact fun _ => .nil
  | @cons a b σ ρ r t ih =>
    cases a <;> cases b <;> simp only [liveV, liveS]
    · exact fun q => .cons trivial (ih q)
    · exact r.elim
    · exact fun q => .cons trivial (ih q)
    · intro q
      cases q with
      | cons r' t' => exact .cons r' (ih t')
theorem live_len : ∀ {σ : L2.St} {ρ : Env}, Paired (SlR K F) σ ρ → (liveV σ ρ).length = (liveS σ ρ).length := fun h => Paired.length (live_of h)
theorem St.slots (h : St K B F0 ρ L σ H vs ds) : ∃ F, Paired (SlR K F) σ ρ := let ⟨F, _, a, _⟩ := h; ⟨F, a⟩
/-- the slots' values are held while another block runs -/
theorem St.hold (h : St K B F0 ρ L σ H vs ds) : St K B F0 ρ L σ H (liveV σ ρ ++ vs) (liveS σ ρ ++ ds) :=
  let ⟨F, k, a, b⟩ := h; ⟨F, k, a, pr_app (live_of a) b⟩
theorem St.back (q : ∃ F, Paired (SlR K F) σ ρ) (h : St K B F0 ρ' L σ' H (liveV σ ρ ++ vs) (liveS σ ρ ++ ds)) : St K B F0 ρ L σ H vs ds := by
  obtain ⟨F1, q⟩ := q
  obtain ⟨F, k, a, b⟩ := h
  obtain ⟨b1, b2⟩ := pr_split (live_len q) b
  exact ⟨F, k, of_live q b1, b2⟩
theorem pr_wipe : ∀ (ws : List Nat) {σ : L2.St} {ρ : Env}, Paired (SlR K F) σ ρ → Paired (SlR K F) (wipe σ ws) (wipeE ρ ws)
  | [], _, _, h => h
  | w :: ws, _, _, h => pr_set (show SlR K F none none from trivial) w (pr_wipe ws h)
theorem St.wipe (ws : List Nat) (h : St K B F0 ρ L σ H vs ds) : St K B F0 (wipeE ρ ws) L (L2.wipe σ ws) H vs ds :=
  let ⟨F, k, a, b⟩ := h; ⟨F, k, pr_wipe ws a, b⟩
end

/-! ### the reading of a comprehension -/
section
variable {K : PySem.W.Frag} {α β W : Type}
theorem lc_read {wi : TI} {g : TG} {tt : TT} {te : TE} {ws : List Nat} {ρ : Env} {ρb : α → Env} {Lf : W → Ow} {w0 wf : W} {PL : Ow → Prop} {en : α → Sl} {xs : List α} {ys : List β} {d : β → PyData} {c : α → W → Option (Bool × W)} {k : α → W → Option (β × W)}
    {B F0 : Hp} {σ : L2.St} {H : Hp} {vs : List V} {ds : List Sl} {Q : VK}
    (hwi : ∀ R : It → Hp → Prop, (∀ J H1 pv pd, pv.length = pd.length → xs.length ≤ sizeLine → St K B F0 ρ (Lf w0) σ H1 (pv ++ vs) (pd ++ ds) → Walk K J pv pd PL en xs → R J H1) → wi σ H R)
    (hPL : ∀ w M, PL (Lf w ++ M))
    (hg : ∀ x w M σ H v vs ds Q, St K B F0 (wipeE ρ ws) (Lf w ++ M) σ H (v :: vs) (en x :: ds) → (∀ σ' H', wipe σ' ws = wipe σ ws → St K B F0 (ρb x) (Lf w ++ M) σ' H' vs ds → Q σ' H') → g v σ H Q)
    (ht : ∀ x w b w', c x w = some (b, w') → ∀ M σ H vs ds Q, St K B F0 (ρb x) (Lf w ++ M) σ H vs ds → (∀ H', St K B F0 (ρb x) (Lf w' ++ M) σ H' vs ds → Q b H') → tt σ H Q)
    (he : ∀ x w a w', k x w = some (a, w') → ∀ M σ H vs ds Q, St K B F0 (ρb x) (Lf w ++ M) σ H vs ds → (∀ v H', St K B F0 (ρb x) (Lf w' ++ M) σ H' (v :: vs) (.dat (d a) :: ds) → Q v H') → te σ H Q)
    (hm : filtW c k xs w0 = some (ys, wf)) (hS : ∃ F, Paired (SlR K F) σ ρ)
    (hQ : ∀ D H', St K B F0 ρ (Lf wf ++ [(D, .lst ((ys.map d).map .dat))]) σ H' (.ref D :: vs) (.ptr D :: ds) → Q (.ref D) H') : tLc wi g tt te ws σ H Q := by
  refine hwi _ fun J H1 pv pd hl hz s1 w => ?_
  intro D hD
  refine ⟨fun i m H => m = xs.length - i ∧ i ≤ xs.length ∧ ∃ (acc rest : List β) (w : W), filtW c k (xs.drop i) w = some (rest, wf) ∧ ys = acc ++ rest ∧ acc.length ≤ i ∧ St K B F0 ρ (Lf w ++ [(D, .lst ((acc.map d).map .dat))]) σ H (pv ++ vs) (pd ++ ds),
    ⟨_, rfl, Nat.zero_le _, [], ys, w0, hm, rfl, Nat.zero_le _, ?_⟩, ?_⟩
  · exact (St.newLst (us := []) (xs := []) s1 rfl hD (Nat.zero_le _)).pop
  rintro i m H2 ⟨rfl, hi, acc, rest, w2, hr, ey, ha, s2⟩
  obtain ⟨w3, w4⟩ := w B F0 _ _ σ H2 vs ds i (hPL w2 _) s2
  by_cases hlt : i < xs.length
  · obtain ⟨go, yl⟩ := w4 xs[i] (List.getElem?_eq_getElem hlt)
    rw [List.drop_eq_getElem_cons hlt] at hr
    obtain ⟨⟨b, w5⟩, hb, hr⟩ := Option.bind_eq_some_iff.mp hr
    refine .inr ⟨go, fun H => ∃ (acc rest : List β) (w : W), filtW c k (xs.drop (i + 1)) w = some (rest, wf) ∧ ys = acc ++ rest ∧ acc.length ≤ i + 1 ∧ St K B F0 ρ (Lf w ++ [(D, .lst ((acc.map d).map .dat))]) σ H (pv ++ vs) (pd ++ ds),
      fun H' q => ⟨xs.length - (i + 1), by omega, rfl, hlt, q⟩, fun y H' hy => ?_⟩
    have s3 := yl y H' hy
    have s4 : St K B F0 ρ (Lf w2 ++ [(D, .lst ((acc.map d).map .dat))]) σ H' (y :: (liveV σ ρ ++ (pv ++ vs))) (en xs[i] :: (liveS σ ρ ++ (pd ++ ds))) := by
      obtain ⟨F, k', a, b'⟩ := s3
      cases b' with
      | cons r t => exact ⟨F, k', a, .cons r (pr_app (live_of a) t)⟩
    refine hg xs[i] w2 _ _ H' y _ _ _ (s4.wipe ws) fun σ5 H5 e5 s5 => ⟨?_, ?_⟩
    · rw [e5]
      apply List.ext_getElem?
      intro j
      simp only [wipe_get]
      by_cases hj : j ∈ ws
      · simp only [if_pos hj]
        cases σ[j]? <;> rfl
      · simp only [if_neg hj]
    · refine ht xs[i] w2 b w5 hb _ σ5 H5 _ _ _ s5 fun H6 s6 => ?_
      cases b with
      | false =>
        refine iteF ⟨acc, rest, w5, by simpa using hr, ey, by omega, s6.back hS⟩
      | true =>
        rw [if_pos rfl] at hr
        obtain ⟨⟨a, w7⟩, hk, hr⟩ := Option.bind_eq_some_iff.mp hr
        obtain ⟨⟨r2, w8⟩, hr2, er⟩ := Option.map_eq_some_iff.mp hr
        injection er with er1 er2
        subst er2
        refine iteT (he xs[i] w5 a w7 hk _ σ5 H6 _ _ _ s6 fun v H7 s7 => ?_)
        have m7 : (D, OD.lst ((acc.map d).map .dat)) ∈ Lf w7 ++ [(D, OD.lst ((acc.map d).map .dat))] := List.mem_append_right _ (by simp)
        obtain ⟨us, h1, h2, _, _⟩ := s7.own1 m7
        have h2' : us.length = acc.length := by rw [h2, List.length_map, List.length_map]
        refine ⟨us, h1, by omega, acc ++ [a], r2, w7, hr2, ?_, ?_, ?_⟩
        · rw [ey, ← er1, List.append_assoc]; rfl
        · rw [List.length_append]
          exact Nat.add_le_add_right ha 1
        · obtain ⟨F, k', sl, sv⟩ := s7
          cases sv with
          | cons r t =>
            obtain ⟨_, _, us', h1', q⟩ := k'.own _ m7
            have e : us' = us := by
              have e := h1'.symm.trans h1
              injection e with e
              injection e
            subst e
            have k2 := Ok.write (L2 := []) (d' := OD.lst (((acc ++ [a]).map d).map .dat)) (o := .lst (us' ++ [v])) k' (by show (us' ++ [v]).length ≤ sizeLine; rw [List.length_append]; show us'.length + 1 ≤ sizeLine; omega)
              ⟨_, upd_same, by rw [List.map_append, List.map_append]; exact pr_app q (.cons r .nil)⟩
            exact St.back hS ⟨F, k2, sl, t⟩
  · have e : i = xs.length := by omega
    have e2 : xs.drop i = [] := by rw [e]; exact List.drop_length
    rw [e2] at hr
    have e3 : rest = [] ∧ w2 = wf := by
      have : (([] : List β), w2) = (rest, wf) := by simpa [filtW] using hr
      injection this with a b
      exact ⟨a.symm, b⟩
    obtain ⟨rfl, rfl⟩ := e3
    rw [List.append_nil] at ey
    subst ey
    refine .inl ⟨w3 e, hQ D H2 ?_⟩
    have s5 : St K B F0 ρ (Lf w2 ++ [(D, .lst ((ys.map d).map .dat))]) σ H2 vs ds := s2.stack fun F r => (pr_split hl r).2
    exact s5.push fun F => rfl
end

/-! ### targets of a comprehension -/
section
variable {X : Cx} {α β γ W : Type} {e tg iter elt c : Expr} {ρ ρ' : Env} {L : Ow} {pos : Pos} {d : α → PyData}
/-- .. that stores into the slots ws alone -/
def GY (X : Cx) (tg : Expr) (ρ : Env) (s : Sl) (ρ' : Env) (ws : List Nat) : Prop :=
  ∃ g, PG X tg g ∧ ∀ L B F0 σ H v vs ds Q, St X.K B F0 ρ L σ H (v :: vs) (s :: ds) → (∀ σ' H', wipe σ' ws = wipe σ ws → St X.K B F0 ρ' L σ' H' vs ds → Q σ' H') → g v σ H Q
def GYs (X : Cx) (ts : List Expr) (ρ : Env) (ss : List Sl) (ρ' : Env) (ws : List Nat) : Prop :=
  ∃ g, PGs X ts g ∧ ∀ L B F0 σ H us vs ds Q, us.length = ss.length → St X.K B F0 ρ L σ H (us ++ vs) (ss ++ ds) → (∀ σ' H', wipe σ' ws = wipe σ ws → St X.K B F0 ρ' L σ' H' vs ds → Q σ' H') → g us σ H Q
theorem y_name (i : Nat) {x : Str} {s : Sl} {ws : List Nat} (hN : X.N.Nodup) (hi : X.N[i]? = some x := by rfl) (hx : Loc X.env.scope x := by first | exact Or.inl rfl | exact Or.inr rfl) (hf : X.fn x = true ∨ X.env.scope.names.lookup x = some .local := by first | exact .inl rfl | exact .inr rfl) (hw : i ∈ ws := by decide) : GY X (.Name x pos) ρ s (ρ.set i (some s)) ws :=
  ⟨_, pg_name hN hi hx hf, fun L B F0 σ H v vs ds Q st k => k _ _ (wipe_set hw) (st.store i)⟩
theorem ys_nil {ws : List Nat} : GYs X [] ρ [] ρ ws := ⟨_, pgs_nil, fun L B F0 σ H us vs ds Q e s k => by
  cases us with
  | nil => exact ⟨rfl, k σ H rfl s⟩
  | cons u r => exact absurd e (by simp)⟩
theorem ys_cons {t : Expr} {ts : List Expr} {s : Sl} {ss : List Sl} {ρ1 ρ2 : Env} {ws : List Nat} (h : GY X t ρ s ρ1 ws) (h' : GYs X ts ρ1 ss ρ2 ws) (hs : (assignEach (t :: ts) X.env).map (·.2) = assign t X.env :: (assignEach ts X.env).map (·.2) := by rfl) : GYs X (t :: ts) ρ (s :: ss) ρ2 ws := by
  obtain ⟨g, p, h⟩ := h
  obtain ⟨g', p', h'⟩ := h'
  refine ⟨_, pgs_cons p p' hs, fun L B F0 σ H us vs ds Q e st k => ?_⟩
  cases us with
  | nil => exact absurd e (by simp)
  | cons u r => exact ⟨u, r, rfl, h L B F0 σ H u (r ++ vs) (ss ++ ds) _ st fun σ1 H1 e1 s1 => h' L B F0 σ1 H1 r vs ds Q (by simpa using e) s1 fun σ2 H2 e2 s2 => k σ2 H2 (e2.trans e1) s2⟩
theorem y_tup {es : List Expr} {k : Nat} {xs : List PyData} {ws : List Nat} (hc : X.calm = true) (h : GYs X es ρ (xs.map .dat) ρ' ws) (hn : (assignEach es X.env).length = xs.length := by rfl) (hst : (assignEach es X.env).findIdx? (·.1) = none := by rfl) : GY X (.Tuple es k pos) ρ (.dat (.tuple xs)) ρ' ws := by
  obtain ⟨g, p, h⟩ := h
  refine ⟨_, pg_tup hc p hn hst, fun L B F0 σ H v vs ds Q s k => ?_⟩
  obtain ⟨a, us, rfl, h1, h2, _, h3⟩ := s.tup1
  have s3 := h3.stack (ws := us ++ vs) (es := xs.map .dat ++ ds) fun F r => by
    obtain ⟨r1, r2⟩ := pr_split (by rw [List.length_map]; exact h2) r
    exact pr_app r1 (by cases r2 with | cons _ t => exact t)
  exact ⟨a, us, rfl, SqT.of h1, h2, h L B F0 σ H us vs ds Q (by rw [List.length_map]; exact h2) s3 k⟩

/-! ### parts that hold in every block -/
abbrev Bk (X : Cx) (scope : Scope) (P : Cx → Prop) : Prop := ∀ (s : Shared) (H : Hp) (C : Addr) (cl : List (Str × Addr)) (fp : List Addr), P (X.blk s H scope (compEnvC scope cl C X.env) fp)
theorem GY.bk {scope : Scope} {ρf' : α → Env} {sf : α → Sl} {ws : List Nat} (h : Bk X scope fun X => ∀ x, GY X tg ρ (sf x) (ρf' x) ws) :
    ∃ g, Bk X scope (fun X => PG X tg g) ∧ ∀ x L B F0 σ H v vs ds Q, St X.K B F0 ρ L σ H (v :: vs) (sf x :: ds) → (∀ σ' H', wipe σ' ws = wipe σ ws → St X.K B F0 (ρf' x) L σ' H' vs ds → Q σ' H') → g v σ H Q := by
  refine ⟨fun v σ H Q => ∃ x L B F0 vs ds, St X.K B F0 ρ L σ H (v :: vs) (sf x :: ds) ∧ ∀ σ' H', wipe σ' ws = wipe σ ws → St X.K B F0 (ρf' x) L σ' H' vs ds → Q σ' H', fun s1 H1 C cl fp => ⟨fun pins s σ H v u Q I r h2 => ?_⟩, fun x L B F0 σ H v vs ds Q q k => ⟨x, L, B, F0, vs, ds, q, k⟩⟩
  obtain ⟨x, L, B, F0, vs, ds, q, k⟩ := h2
  obtain ⟨g, p, h⟩ := h s1 H1 C cl fp x
  exact p.run pins s σ H v u Q I r (h L B F0 σ H v vs ds Q q k)
theorem EM.bk {scope : Scope} {Lf : W → Ow} {ρf : γ → Env} {k : γ → W → Option (α × W)} (h : Bk X scope fun X => ∀ x w M, EM X d e (ρf x) (fun w => Lf w ++ M) w (k x w)) :
    ∃ t, Bk X scope (fun X => PE X e t) ∧ ∀ x w a w', k x w = some (a, w') → ∀ M B F0 σ H vs ds Q, St X.K B F0 (ρf x) (Lf w ++ M) σ H vs ds → (∀ v H', St X.K B F0 (ρf x) (Lf w' ++ M) σ H' (v :: vs) (.dat (d a) :: ds) → Q v H') → t σ H Q := by
  refine ⟨fun σ H Q => ∃ x w a w' M B F0 vs ds, k x w = some (a, w') ∧ St X.K B F0 (ρf x) (Lf w ++ M) σ H vs ds ∧ ∀ v H', St X.K B F0 (ρf x) (Lf w' ++ M) σ H' (v :: vs) (.dat (d a) :: ds) → Q v H', fun s1 H1 C cl fp => ⟨fun pins s σ H Q I h2 => ?_⟩,
    fun x w a w' e M B F0 σ H vs ds Q q g => ⟨x, w, a, w', M, B, F0, vs, ds, e, q, g⟩⟩
  obtain ⟨x, w, a, w', M, B, F0, vs, ds, e, q, g⟩ := h2
  obtain ⟨t, p, h⟩ := h s1 H1 C cl fp x w M
  exact p.run pins s σ H Q I (h a w' e B F0 σ H vs ds Q q g)
theorem TM.bk {scope : Scope} {Lf : W → Ow} {ρf : γ → Env} {k : γ → W → Option (Bool × W)} (h : Bk X scope fun X => ∀ x w M, TM X e (ρf x) (fun w => Lf w ++ M) w (k x w)) :
    ∃ t, Bk X scope (fun X => PT X e t) ∧ ∀ x w a w', k x w = some (a, w') → ∀ M B F0 σ H vs ds Q, St X.K B F0 (ρf x) (Lf w ++ M) σ H vs ds → (∀ H', St X.K B F0 (ρf x) (Lf w' ++ M) σ H' vs ds → Q a H') → t σ H Q := by
  refine ⟨fun σ H Q => ∃ x w a w' M B F0 vs ds, k x w = some (a, w') ∧ St X.K B F0 (ρf x) (Lf w ++ M) σ H vs ds ∧ ∀ H', St X.K B F0 (ρf x) (Lf w' ++ M) σ H' vs ds → Q a H', fun s1 H1 C cl fp => ⟨fun pins s σ H Q I h2 => ?_⟩,
    fun x w a w' e M B F0 σ H vs ds Q q g => ⟨x, w, a, w', M, B, F0, vs, ds, e, q, g⟩⟩
  obtain ⟨x, w, a, w', M, B, F0, vs, ds, e, q, g⟩ := h2
  obtain ⟨t, p, h⟩ := h s1 H1 C cl fp x w M
  exact p.run pins s σ H Q I (h a w' e B F0 σ H vs ds Q q g)
theorem EX.bk {scope : Scope} {ρf : γ → Env} {k : γ → Option α} (h : Bk X scope fun X => ∀ x M, EX X d e (ρf x) (L ++ M) (k x)) : Bk X scope fun X => ∀ x (w : Unit) M, EM X d e (ρf x) (fun _ => L ++ M) w ((k x).map fun a => (a, w)) :=
  fun s H C cl fp x w M => EX.m (Lf := fun _ => L ++ M) (h s H C cl fp x M)
theorem TX.bk {scope : Scope} {ρf : γ → Env} {k : γ → Option Bool} (h : Bk X scope fun X => ∀ x M, TX X e (ρf x) (L ++ M) (k x)) : Bk X scope fun X => ∀ x (w : Unit) M, TM X e (ρf x) (fun _ => L ++ M) w ((k x).map fun a => (a, w)) :=
  fun s H C cl fp x w M => TX.m (Lf := fun _ => L ++ M) (h s H C cl fp x M)

/-! ### the rules -/
/-- a comprehension of one for: its parts, and what its reading comes to -/
def LCA (X : Cx) {α W : Type} (tg iter elt : Expr) (ifs : List Expr) (scope : Scope) (own : List (Str × Nat)) (d : α → PyData) (ρ : Env) (Lf : W → Ow) (w0 : W) (m : Option (List α × W)) : Prop :=
  ∃ wi g tt te, PI X tg iter wi ∧ Bk X scope (fun X => PG X tg g) ∧ Bk X scope (fun X => PTs X ifs tt) ∧ Bk X scope (fun X => PE X elt te) ∧
      ∀ ys wf, m = some (ys, wf) → ∀ B F0 σ H vs ds Q, St X.K B F0 ρ (Lf w0) σ H vs ds → (∀ p H', St X.K B F0 ρ (Lf wf ++ [(p, .lst ((ys.map d).map .dat))]) σ H' (.ref p :: vs) (.ptr p :: ds) → Q (.ref p) H') → tLc wi g tt te (own.map (·.2)) σ H Q
theorem LCA.conv {ifs : List Expr} {scope : Scope} {own : List (Str × Nat)} {Lf : W → Ow} {w0 : W} {m m' : Option (List α × W)} (h : LCA X tg iter elt ifs scope own d ρ Lf w0 m) (q : m = m') : LCA X tg iter elt ifs scope own d ρ Lf w0 m' := q ▸ h
theorem lc_all {scope : Scope} {own : List (Str × Nat)} {ifs : List Expr} {Lf : W → Ow} {w0 : W} {PL : Ow → Prop} {en : γ → Sl} {o : Option (List γ)} {ρb : γ → Env} {cf : γ → W → Option (Bool × W)} {k : γ → W → Option (α × W)}
    (hi : IX X tg iter ρ (Lf w0) PL true en o) (hPL : ∀ w M, PL (Lf w ++ M)) (hg : Bk X scope fun X => ∀ x, GY X tg (wipeE ρ (own.map (·.2))) (en x) (ρb x) (own.map (·.2)))
    (ht : ∃ t, Bk X scope (fun X => PTs X ifs t) ∧ ∀ x w a w', cf x w = some (a, w') → ∀ M B F0 σ H vs ds Q, St X.K B F0 (ρb x) (Lf w ++ M) σ H vs ds → (∀ H', St X.K B F0 (ρb x) (Lf w' ++ M) σ H' vs ds → Q a H') → t σ H Q)
    (he : Bk X scope fun X => ∀ x w M, EM X d elt (ρb x) (fun w => Lf w ++ M) w (k x w)) :
    LCA X tg iter elt ifs scope own d ρ Lf w0 (o.bind fun xs => filtW cf k xs w0) := by
  obtain ⟨wi, pi, hi⟩ := hi
  obtain ⟨g, pg, hg⟩ := GY.bk hg
  obtain ⟨tt, pt, ht⟩ := ht
  obtain ⟨te, pe, he⟩ := EM.bk he
  refine ⟨wi, g, tt, te, pi, pg, pt, pe, fun ys wf hm B F0 σ H vs ds Q s q => ?_⟩
  obtain ⟨xs, hx, hm⟩ := Option.bind_eq_some_iff.mp hm
  exact lc_read (fun R r => hi xs hx B F0 σ H vs ds R s fun J H1 pv pd e z s1 w => r J H1 pv pd e (z rfl) s1 w) hPL (fun x w M σ H v vs ds Q => hg x (Lf w ++ M) B F0 σ H v vs ds Q) (fun x w b w' e M σ H vs ds Q => ht x w b w' e M B F0 σ H vs ds Q) (fun x w a w' e M σ H vs ds Q => he x w a w' e M B F0 σ H vs ds Q) hm s.slots q
/-- with a test; without -/
theorem lm_if {scope : Scope} {own : List (Str × Nat)} {Lf : W → Ow} {w0 : W} {PL : Ow → Prop} {en : γ → Sl} {o : Option (List γ)} {ρb : γ → Env} {cf : γ → W → Option (Bool × W)} {k : γ → W → Option (α × W)}
    (hi : IX X tg iter ρ (Lf w0) PL true en o) (hPL : ∀ w M, PL (Lf w ++ M)) (hg : Bk X scope fun X => ∀ x, GY X tg (wipeE ρ (own.map (·.2))) (en x) (ρb x) (own.map (·.2)))
    (ht : Bk X scope fun X => ∀ x w M, TM X c (ρb x) (fun w => Lf w ++ M) w (cf x w)) (he : Bk X scope fun X => ∀ x w M, EM X d elt (ρb x) (fun w => Lf w ++ M) w (k x w)) :
    LCA X tg iter elt [c] scope own d ρ Lf w0 (o.bind fun xs => filtW cf k xs w0) := by
  obtain ⟨tt, pt, ht⟩ := TM.bk ht
  exact lc_all (ifs := [c]) hi hPL hg ⟨tt, fun s H C cl fp => pts_one (pt s H C cl fp), ht⟩ he
theorem lm_no {scope : Scope} {own : List (Str × Nat)} {Lf : W → Ow} {w0 : W} {PL : Ow → Prop} {en : γ → Sl} {o : Option (List γ)} {ρb : γ → Env} {k : γ → W → Option (α × W)}
    (hi : IX X tg iter ρ (Lf w0) PL true en o) (hPL : ∀ w M, PL (Lf w ++ M)) (hg : Bk X scope fun X => ∀ x, GY X tg (wipeE ρ (own.map (·.2))) (en x) (ρb x) (own.map (·.2)))
    (he : Bk X scope fun X => ∀ x w M, EM X d elt (ρb x) (fun w => Lf w ++ M) w (k x w)) :
    LCA X tg iter elt [] scope own d ρ Lf w0 (o.bind fun xs => mapW k xs w0) := by
  refine (lc_all (ifs := []) (cf := fun _ w => some (true, w)) hi hPL hg ⟨_, fun s H C cl fp => pts_nil, fun x w a w' e M B F0 σ H vs ds Q s q => by cases e; exact q H s⟩ he).conv ?_
  congr 1
  funext xs
  exact (mapW_filt k xs w0).symm
theorem lp_if {scope : Scope} {own : List (Str × Nat)} {PL : Ow → Prop} {en : γ → Sl} {o : Option (List γ)} {ρb : γ → Env} {cf : γ → Option Bool} {k : γ → Option α}
    (hi : IX X tg iter ρ L PL true en o) (hPL : ∀ M, PL (L ++ M)) (hg : Bk X scope fun X => ∀ x, GY X tg (wipeE ρ (own.map (·.2))) (en x) (ρb x) (own.map (·.2)))
    (ht : Bk X scope fun X => ∀ x M, TX X c (ρb x) (L ++ M) (cf x)) (he : Bk X scope fun X => ∀ x M, EX X d elt (ρb x) (L ++ M) (k x)) :
    LCA X tg iter elt [c] scope own d ρ (fun _ : Unit => L) () ((o.bind fun xs => filtO cf k xs).map fun ys => (ys, ())) :=
  (lm_if (Lf := fun _ => L) hi (fun _ => hPL) hg (TX.bk ht) (EX.bk he)).conv (by cases o with | none => rfl | some xs => exact filtO_W cf k xs)
theorem lp_no {scope : Scope} {own : List (Str × Nat)} {PL : Ow → Prop} {en : γ → Sl} {o : Option (List γ)} {ρb : γ → Env} {k : γ → Option α}
    (hi : IX X tg iter ρ L PL true en o) (hPL : ∀ M, PL (L ++ M)) (hg : Bk X scope fun X => ∀ x, GY X tg (wipeE ρ (own.map (·.2))) (en x) (ρb x) (own.map (·.2)))
    (he : Bk X scope fun X => ∀ x M, EX X d elt (ρb x) (L ++ M) (k x)) :
    LCA X tg iter elt [] scope own d ρ (fun _ : Unit => L) () ((o.bind fun xs => mapO k xs).map fun ys => (ys, ())) :=
  (lm_no (Lf := fun _ => L) hi (fun _ => hPL) hg (EX.bk he)).conv (by cases o with | none => rfl | some xs => exact mapO_W k xs)
/-- as a value -/
theorem LCA.n {ifs : List Expr} {scope : Scope} {own : List (Str × Nat)} {o : Option (List α)} (h : LCA X tg iter elt ifs scope own d ρ (fun _ : Unit => L) () (o.map fun ys => (ys, ()))) (hN : X.N.Nodup) (ok : BlkOk X.N X.env.scope scope own) (hc : X.calm = true := by rfl) (hs : ∀ x, foldedSetIterable iter X.env x = pure x := by intro _; rfl) :
    EN X d (.ListComp elt [⟨tg, iter, ifs, 0⟩] scope pos) ρ L o := by
  obtain ⟨wi, g, tt, te, pi, pg, pt, pe, h⟩ := h
  exact ⟨_, pe_lc hc hN pi ok pg pt pe hs, fun a ha => h a () (by rw [ha]; rfl)⟩
theorem LCA.m {ifs : List Expr} {scope : Scope} {own : List (Str × Nat)} {Lf : W → Ow} {w : W} {o : Option (List α × W)} (h : LCA X tg iter elt ifs scope own d ρ Lf w o) (hN : X.N.Nodup) (ok : BlkOk X.N X.env.scope scope own) (hc : X.calm = true := by rfl) (hs : ∀ x, foldedSetIterable iter X.env x = pure x := by intro _; rfl) :
    EM X (dL d) (.ListComp elt [⟨tg, iter, ifs, 0⟩] scope pos) ρ Lf w o := by
  obtain ⟨wi, g, tt, te, pi, pg, pt, pe, h⟩ := h
  refine ⟨_, pe_lc hc hN pi ok pg pt pe hs, fun xs w' hx B F0 σ H vs ds Q s k => h xs w' hx B F0 σ H vs ds _ s fun p H1 s1 => k _ _ ?_⟩
  have s2 := St.frz (L2 := []) s1
  rw [List.append_nil] at s2
  exact s2
/-- y = [..]: data; an owned list -/
theorem LCA.s {ifs : List Expr} {scope : Scope} {own : List (Str × Nat)} {o : Option (List α)} {y : Str} {py spos : Pos} (h : LCA X tg iter elt ifs scope own d ρ (fun _ : Unit => L) () (o.map fun ys => (ys, ()))) (i : Nat) (hN : X.N.Nodup) (ok : BlkOk X.N X.env.scope scope own)
    (hsw : swapsWith (.ListComp elt [⟨tg, iter, ifs, 0⟩] scope pos) (some (.Name y py)) spos.line X.env = pure true) (hi : X.N[i]? = some y := by rfl) (hyl : X.env.scope.names.lookup y = some .local := by rfl) (hc : X.calm = true := by rfl) (hs : ∀ x, foldedSetIterable iter X.env x = pure x := by intro _; rfl) :
    SX X (.Assign [.Name y py] (.ListComp elt [⟨tg, iter, ifs, 0⟩] scope pos) spos) ρ L o (ocn fun ys => (ρ.set i (some (.dat (dL d ys))), L)) := by
  obtain ⟨wi, g, tt, te, pi, pg, pt, pe, h⟩ := h
  refine ⟨_, ps_setLc hc hN hi hyl hsw pi ok pg pt pe hs, fun a ha B F0 σ H vs ds D s k => h a () (by rw [ha]; rfl) B F0 σ H vs ds _ s fun p H1 s1 => k _ _ ?_⟩
  have s2 := St.frz (L2 := []) s1
  rw [List.append_nil] at s2
  exact s2.store i
theorem LCA.sm {ifs : List Expr} {scope : Scope} {own : List (Str × Nat)} {Lf : W → Ow} {w : W} {o : Option (List α × W)} {y : Str} {py spos : Pos} (h : LCA X tg iter elt ifs scope own d ρ Lf w o) (i : Nat) (hN : X.N.Nodup) (ok : BlkOk X.N X.env.scope scope own)
    (hsw : swapsWith (.ListComp elt [⟨tg, iter, ifs, 0⟩] scope pos) (some (.Name y py)) spos.line X.env = pure true) (hi : X.N[i]? = some y := by rfl) (hyl : X.env.scope.names.lookup y = some .local := by rfl) (hc : X.calm = true := by rfl) (hs : ∀ x, foldedSetIterable iter X.env x = pure x := by intro _; rfl) :
    SX X (.Assign [.Name y py] (.ListComp elt [⟨tg, iter, ifs, 0⟩] scope pos) spos) ρ (Lf w) o (ocn fun ys => (ρ.set i (some (.dat (dL d ys.1))), Lf ys.2)) := by
  obtain ⟨wi, g, tt, te, pi, pg, pt, pe, h⟩ := h
  refine ⟨_, ps_setLc hc hN hi hyl hsw pi ok pg pt pe hs, fun a ha B F0 σ H vs ds D s k => h a.1 a.2 ha B F0 σ H vs ds _ s fun p H1 s1 => k _ _ ?_⟩
  have s2 := St.frz (L2 := []) s1
  rw [List.append_nil] at s2
  exact s2.store i
theorem LCA.b {δ : Type} {oc : δ → Oc} {rest : List Stmt} {kk : List α → Option δ} {ifs : List Expr} {scope : Scope} {own : List (Str × Nat)} {o : Option (List α)} {y : Str} {py spos : Pos} (h : LCA X tg iter elt ifs scope own d ρ (fun _ : Unit => L) () (o.map fun ys => (ys, ()))) (i : Nat) (hN : X.N.Nodup) (ok : BlkOk X.N X.env.scope scope own)
    (hsw : swapsWith (.ListComp elt [⟨tg, iter, ifs, 0⟩] scope pos) (some (.Name y py)) spos.line X.env = pure true) (hr : ∀ p a, BX X rest (ρ.set i (some (.ptr p))) (L ++ [(p, .lst ((a.map d).map .dat))]) (kk a) oc) (hi : X.N[i]? = some y := by rfl) (hyl : X.env.scope.names.lookup y = some .local := by rfl) (hc : X.calm = true := by rfl) (hs : ∀ x, foldedSetIterable iter X.env x = pure x := by intro _; rfl) :
    BX X (.Assign [.Name y py] (.ListComp elt [⟨tg, iter, ifs, 0⟩] scope pos) spos :: rest) ρ L (o.bind kk) oc := by
  obtain ⟨wi, g, tt, te, pi, pg, pt, pe, h⟩ := h
  obtain ⟨t', p', hr⟩ := BX.all (S := Addr × List α) (ρf := fun q => ρ.set i (some (.ptr q.1))) (Lf := fun q => L ++ [(q.1, .lst ((q.2.map d).map .dat))]) (k := fun q => kk q.2) (fun q => hr q.1 q.2)
  refine ⟨_, pss_cons (ps_setLc hc hN hi hyl hsw pi ok pg pt pe hs) p', fun b hb B F0 σ H vs ds D s gd => ?_⟩
  obtain ⟨a, ha, hb⟩ := Option.bind_eq_some_iff.mp hb
  exact h a () (by rw [ha]; rfl) B F0 σ H vs ds (fun x H1 => t' D (σ.set i (some x)) H1) s fun p H1 s1 => hr (p, a) b hb B F0 _ _ vs ds D (s1.store i) gd
end
end Mir
namespace Mir
open PySem L2

/-! ### x in xs, whatever the items are -/
def rInS (K : PySem.W.Frag) (neg : Bool) : R2 := fun x y H Q => ∃ d ds a us, y = .ref a ∧ (SqL K H a us ∨ SqT K H a us) ∧ DpAll K H us ds ∧ Dp K H x d ∧ SeqAt.shaped d = true ∧ PyData.canLayAll0 ds = true ∧ Q (.bl (if neg then !ds.any (fun z => PyData.eqv z d) else ds.any fun z => PyData.eqv z d)) H
section
variable {X : Cx}
theorem room_in {A : Around} {ds : List PyData} {d : PyData} (h : SeqAt.shaped d = true) (hu : A.units + 65 < cLine) : A.units + 1 + min (PyData.depthAll ds) d.depth < cLine := by
  have h1 := SeqAt.depth_of_shaped h
  have h2 : min (PyData.depthAll ds) d.depth ≤ d.depth := Nat.min_le_right _ _
  omega
theorem op_inS (hu : X.A.units + 65 < cLine) : OpR X (compareOp .In) (rInS X.K false) := by
  intro pins s σ H x y v u Q I rx ry h
  obtain ⟨d, ds, a, us, rfl, hs, ha, hd, sd, sl, q⟩ := h
  obtain ⟨as, r1⟩ := Dp.reads I d x v hd rx
  rcases hs with hs | hs
  · obtain ⟨bs, r2⟩ := Dp.reads I (.list ds) _ u (.lst hs ha) ry
    exact SeqAt.in_list_reads r2 r1 sl (SeqAt.canLay_of_shaped sd) (room_in sd hu) ⟨.bl _, H, I, rfl, q⟩
  · obtain ⟨bs, r2⟩ := Dp.reads I (.tuple ds) _ u (.tup hs ha) ry
    exact SeqAt.in_tuple_reads r2 r1 sl (SeqAt.canLay_of_shaped sd) (room_in sd hu) ⟨.bl _, H, I, rfl, q⟩
theorem op_notInS (hu : X.A.units + 65 < cLine) : OpR X (compareOp .NotIn) (rInS X.K true) := by
  intro pins s σ H x y v u Q I rx ry h
  obtain ⟨d, ds, a, us, rfl, hs, ha, hd, sd, sl, q⟩ := h
  obtain ⟨as, r1⟩ := Dp.reads I d x v hd rx
  rcases hs with hs | hs
  · obtain ⟨bs, r2⟩ := Dp.reads I (.list ds) _ u (.lst hs ha) ry
    exact SeqAt.notIn_list_reads r2 r1 sl (SeqAt.canLay_of_shaped sd) (room_in sd hu) ⟨.bl _, H, I, rfl, q⟩
  · obtain ⟨bs, r2⟩ := Dp.reads I (.tuple ds) _ u (.tup hs ha) ry
    exact SeqAt.notIn_tuple_reads r2 r1 sl (SeqAt.canLay_of_shaped sd) (room_in sd hu) ⟨.bl _, H, I, rfl, q⟩
end
theorem any_mem {α : Type} [DecidableEq α] {n : Nat} {d : α → PyData} (h : Lw n d) (x : α) (xs : List α) : (xs.map d).any (fun z => PyData.eqv z (d x)) = decide (x ∈ xs) := by
  rw [List.any_map]
  rw [Bool.eq_iff_iff, List.any_eq_true, decide_eq_true_eq]
  constructor
  · rintro ⟨y, hy, e⟩
    have : PyData.eqv (d y) (d x) = true := e
    rw [h.eqv, decide_eq_true_eq] at this
    exact this ▸ hy
  · intro hx
    exact ⟨x, hx, by show PyData.eqv (d x) (d x) = true; rw [h.eqv]; exact decide_eq_true rfl⟩
section
variable {X : Cx} {α β γ : Type} {a b e : Expr} {ρ : Env} {L : Ow} {p pos : Pos} {d : α → PyData} {d' : β → PyData} {j : Nat}
theorem in_core [DecidableEq α] {n : Nat} {neg : Bool} (hl : Lw n d) (hn : n ≤ 64) {B F0 : Hp} {σ : L2.St} {H : Hp} {u v : V} {sl : Sl} {x : α} {xs : List α} {vs : List V} {ds : List Sl} {Q : VK} (q : SeqOf L sl (xs.map d)) (s : St X.K B F0 ρ L σ H (u :: v :: vs) (sl :: .dat (d x) :: ds))
    (k : ∀ v H', St X.K B F0 ρ L σ H' (v :: vs) (.dat (.bool (if neg then !decide (x ∈ xs) else decide (x ∈ xs))) :: ds) → Q v H') : rInS X.K neg v u H Q := by
  obtain ⟨a, us, rfl, h1, h2, h3⟩ := s.seq q
  obtain ⟨F, ok, sl', sv⟩ := id h3
  obtain ⟨sv1, sv2⟩ := pr_split (by rw [List.length_map]; exact h2) sv
  cases sv2 with
  | cons r1 t =>
    cases t with
    | cons r2 t =>
      refine ⟨d x, xs.map d, a, us, rfl, h1, Rps.dp ok.le _ _ (dats sv1), Rp.dp ok.le _ _ r2, hl.shaped hn x, layAll_map hl.lay xs, ?_⟩
      rw [any_mem hl]
      exact k _ _ s.pop.pop.bl
theorem x_in [DecidableEq α] {n : Nat} {o : Option α} {os : Option (List α)} (hl : Lw n d) (hr : Room j X.A) (ha : EX X d a ρ L o) (hb : QX X d b ρ L os) (hm : behindInMarks .In b = false := by rfl) (hn : n ≤ 64 := by decide) : EX X dB (.Compare a [.In] [b] pos) ρ L (o.bind fun x => os.bind fun xs => some (decide (x ∈ xs))) := by
  obtain ⟨ta, pa, ha⟩ := ha
  obtain ⟨tb, pb, hb⟩ := hb
  refine ⟨_, pe_cmpR (op_inS (by have := hr.un; omega)) pa pb hm, fun z hz B F0 σ H vs ds Q s k => ?_⟩
  obtain ⟨x, hx, hz⟩ := Option.bind_eq_some_iff.mp hz
  obtain ⟨y, hy, hz⟩ := Option.bind_eq_some_iff.mp hz
  cases hz
  exact ha x hx B F0 σ H vs ds _ s fun v H1 s1 => hb y hy B F0 σ H1 _ _ _ s1 fun u sl H2 q s2 => in_core (neg := false) hl hn q s2 k
theorem x_notIn [DecidableEq α] {n : Nat} {o : Option α} {os : Option (List α)} (hl : Lw n d) (hr : Room j X.A) (ha : EX X d a ρ L o) (hb : QX X d b ρ L os) (hm : behindInMarks .NotIn b = false := by rfl) (hn : n ≤ 64 := by decide) : EX X dB (.Compare a [.NotIn] [b] pos) ρ L (o.bind fun x => os.bind fun xs => some (!decide (x ∈ xs))) := by
  obtain ⟨ta, pa, ha⟩ := ha
  obtain ⟨tb, pb, hb⟩ := hb
  refine ⟨_, pe_cmpR (op_notInS (by have := hr.un; omega)) pa pb hm, fun z hz B F0 σ H vs ds Q s k => ?_⟩
  obtain ⟨x, hx, hz⟩ := Option.bind_eq_some_iff.mp hz
  obtain ⟨y, hy, hz⟩ := Option.bind_eq_some_iff.mp hz
  cases hz
  exact ha x hx B F0 σ H vs ds _ s fun v H1 s1 => hb y hy B F0 σ H1 _ _ _ s1 fun u sl H2 q s2 => in_core (neg := true) hl hn q s2 k
/-- a comparison's value as a test -/
theorem t_cmpv {op : CmpOp} {o : Option Bool} (h : EX X dB (.Compare a [op] [b] pos) ρ L o) (hh : ∀ {t}, PE X (.Compare a [op] [b] pos) t → PT X (.Compare a [op] [b] pos) (tB t)) : TX X (.Compare a [op] [b] pos) ρ L o := by
  obtain ⟨t, p, h⟩ := h
  exact ⟨_, hh p, fun b hb B F0 σ H vs ds Q s k => h b hb B F0 σ H vs ds _ s fun v H' s' => ⟨b, s'.isBl, k H' s'.pop⟩⟩
theorem t_in [DecidableEq α] {n : Nat} {o : Option α} {os : Option (List α)} (hl : Lw n d) (hr : Room j X.A) (ha : EX X d a ρ L o) (hb : QX X d b ρ L os) (hm : behindInMarks .In b = false := by rfl) (hn : n ≤ 64 := by decide) : TX X (.Compare a [.In] [b] pos) ρ L (o.bind fun x => os.bind fun xs => some (decide (x ∈ xs))) := by
  obtain ⟨ta, pa, ha⟩ := ha
  obtain ⟨tb, pb, hb⟩ := hb
  refine ⟨_, pt_cmpR (op_inS (by have := hr.un; omega)) pa pb hm, fun z hz B F0 σ H vs ds Q s k => ?_⟩
  obtain ⟨x, hx, hz⟩ := Option.bind_eq_some_iff.mp hz
  obtain ⟨y, hy, hz⟩ := Option.bind_eq_some_iff.mp hz
  cases hz
  exact ha x hx B F0 σ H vs ds _ s fun v H1 s1 => hb y hy B F0 σ H1 _ _ _ s1 fun u sl H2 q s2 => in_core (neg := false) hl hn q s2 fun v H' s' => ⟨_, s'.isBl, k H' s'.pop⟩
theorem t_notIn [DecidableEq α] {n : Nat} {o : Option α} {os : Option (List α)} (hl : Lw n d) (hr : Room j X.A) (ha : EX X d a ρ L o) (hb : QX X d b ρ L os) (hm : behindInMarks .NotIn b = false := by rfl) (hn : n ≤ 64 := by decide) : TX X (.Compare a [.NotIn] [b] pos) ρ L (o.bind fun x => os.bind fun xs => some (!decide (x ∈ xs))) := by
  obtain ⟨ta, pa, ha⟩ := ha
  obtain ⟨tb, pb, hb⟩ := hb
  refine ⟨_, pt_cmpR (op_notInS (by have := hr.un; omega)) pa pb hm, fun z hz B F0 σ H vs ds Q s k => ?_⟩
  obtain ⟨x, hx, hz⟩ := Option.bind_eq_some_iff.mp hz
  obtain ⟨y, hy, hz⟩ := Option.bind_eq_some_iff.mp hz
  cases hz
  exact ha x hx B F0 σ H vs ds _ s fun v H1 s1 => hb y hy B F0 σ H1 _ _ _ s1 fun u sl H2 q s2 => in_core (neg := true) hl hn q s2 fun v H' s' => ⟨_, s'.isBl, k H' s'.pop⟩

/-! ### lists alone -/
inductive LstOf (L : Ow) : Sl → List PyData → Prop
  | lst (ds : List PyData) : LstOf L (.dat (.list ds)) ds
  | own {p : Addr} {ds : List PyData} : (p, OD.lst (ds.map .dat)) ∈ L → LstOf L (.ptr p) ds
def QL (X : Cx) {α : Type} (d : α → PyData) (e : Expr) (ρ : Env) (L : Ow) (o : Option (List α)) : Prop :=
  ∃ t, PE X e t ∧ ∀ a, o = some a → ∀ B F0 σ H vs ds Q, St X.K B F0 ρ L σ H vs ds → (∀ v s H', LstOf L s (a.map d) → St X.K B F0 ρ L σ H' (v :: vs) (s :: ds) → Q v H') → t σ H Q
theorem St.lstOf {K : PySem.W.Frag} {B F0 H : Hp} {σ : L2.St} {vs : List V} {ds : List Sl} {v : V} {s : Sl} {xs : List PyData} (q : LstOf L s xs) (h : St K B F0 ρ L σ H (v :: vs) (s :: ds)) :
    ∃ a us, v = .ref a ∧ H a = some (.lst us) ∧ us.length = xs.length ∧ us.length ≤ sizeLine ∧ St K B F0 ρ L σ H (us ++ v :: vs) (xs.map .dat ++ s :: ds) := by
  cases q with
  | lst => exact h.lst1
  | own m =>
    have e := h.isPtr
    obtain ⟨us, h1, h2, h4, h3⟩ := h.own1 m
    exact ⟨_, us, e, h1, by rw [h2, List.length_map], h4, h3⟩
theorem EX.l {o : Option (List α)} (h : EX X (dL d) e ρ L o) : QL X d e ρ L o := by
  obtain ⟨t, p, h⟩ := h
  exact ⟨t, p, fun xs hx B F0 σ H vs ds Q s k => h xs hx B F0 σ H vs ds _ s fun v H1 s1 => k v _ H1 (.lst _) s1⟩
theorem EN.l {o : Option (List α)} (h : EN X d e ρ L o) : QL X d e ρ L o := h.x.l
theorem ES.l {p : Addr} {xs : List α} (h : ES X e ρ L (some (.ptr p))) (m : (p, OD.lst ((xs.map d).map .dat)) ∈ L) : QL X d e ρ L (some xs) := by
  obtain ⟨t, p, h⟩ := h
  exact ⟨t, p, fun ys hy B F0 σ H vs ds Q s k => by cases hy; exact h _ rfl B F0 σ H vs ds _ s fun v H1 s1 => k v _ H1 (.own m) s1⟩
/-- xs + ys -/
theorem n_cat {o o' : Option (List α)} (ha : QL X d a ρ L o) (hb : QL X d b ρ L o') : EN X d (.BinOp a .Add b pos) ρ L (o.bind fun xs => o'.bind fun ys => catO xs ys) := by
  obtain ⟨ta, pa, ha⟩ := ha
  obtain ⟨tb, pb, hb⟩ := hb
  refine ⟨_, pe_op op_cat pa pb, fun z hz B F0 σ H vs ds Q s k => ?_⟩
  obtain ⟨x, hx, hz⟩ := Option.bind_eq_some_iff.mp hz
  obtain ⟨y, hy, hz⟩ := Option.bind_eq_some_iff.mp hz
  unfold catO szO at hz
  split at hz
  · rename_i hl
    have e : x ++ y = z := by simpa using hz
    subst e
    refine ha x hx B F0 σ H vs ds _ s fun v sl H1 q1 s1 => hb y hy B F0 σ H1 _ _ _ s1 fun u sl' H2 q2 s2 => ?_
    obtain ⟨p2, us2, rfl, e2, l2, _, s3⟩ := s2.lstOf q2
    obtain ⟨p1, us1, rfl, e1, l1, _, s4⟩ := s2.pop.lstOf q1
    rw [List.length_map] at l1 l2
    refine ⟨p1, p2, us1, us2, rfl, rfl, e1, e2, by omega, fun p hp => k p _ ?_⟩
    refine St.newLst (xs := ((x ++ y).map d).map .dat) (us := us1 ++ us2) ?_ (by rw [List.length_append, List.length_map, List.length_map, List.length_append]; omega) hp (by rw [List.length_append]; omega)
    obtain ⟨F, ok, sl1, sv⟩ := s2
    cases sv with
    | cons r1 t =>
      cases t with
      | cons r2 t =>
        obtain ⟨p2', us2', h1', h2', h3'⟩ : ∃ a us, V.ref p2 = .ref a ∧ H2 a = some (.lst us) ∧ Paired (SvR X.K F) us ((y.map d).map .dat) := by
          cases q2 with
          | lst =>
            cases (show Rp F _ _ from r1) with
            | lst g1 g2 => exact ⟨_, _, rfl, ok.le _ _ g1, dats_of g2⟩
          | own m =>
            obtain ⟨_, _, us, g1, g2⟩ := ok.own _ m
            exact ⟨_, us, r1, g1, g2⟩
        obtain ⟨p1', us1', h4', h5', h6'⟩ : ∃ a us, V.ref p1 = .ref a ∧ H2 a = some (.lst us) ∧ Paired (SvR X.K F) us ((x.map d).map .dat) := by
          cases q1 with
          | lst =>
            cases (show Rp F _ _ from r2) with
            | lst g1 g2 => exact ⟨_, _, rfl, ok.le _ _ g1, dats_of g2⟩
          | own m =>
            obtain ⟨_, _, us, g1, g2⟩ := ok.own _ m
            exact ⟨_, us, r2, g1, g2⟩
        cases h1'
        cases h4'
        rw [h2'] at e2
        rw [h5'] at e1
        cases e1
        cases e2
        exact ⟨F, ok, sl1, by rw [List.map_append, List.map_append]; exact pr_app (pr_app h6' h3') t⟩
  · cases hz
theorem pr_rep {R : V → Sl → Prop} {us : List V} {ss : List Sl} (h : Paired R us ss) : ∀ k : Nat, Paired R (List.replicate k us).flatten (List.replicate k ss).flatten
  | 0 => .nil
  | k + 1 => by
    rw [List.replicate_succ, List.replicate_succ, List.flatten_cons, List.flatten_cons]
    exact pr_app h (pr_rep h k)
theorem len_rep {τ : Type} (xs : List τ) : ∀ k : Nat, (List.replicate k xs).flatten.length = xs.length * k
  | 0 => rfl
  | k + 1 => by rw [List.replicate_succ, List.flatten_cons, List.length_append, len_rep xs k, Nat.mul_succ, Nat.add_comm]
theorem map_rep {τ υ : Type} (f : τ → υ) (xs : List τ) : ∀ k : Nat, (List.replicate k xs).flatten.map f = (List.replicate k (xs.map f)).flatten
  | 0 => rfl
  | k + 1 => by rw [List.replicate_succ, List.flatten_cons, List.map_append, map_rep f xs k, List.replicate_succ, List.flatten_cons]
/-- xs * k -/
theorem n_rep {o : Option (List α)} {o' : Option Int} (ha : EX X (dL d) a ρ L o) (hb : EX X dI b ρ L o') : EN X d (.BinOp a .Mult b pos) ρ L (o.bind fun xs => o'.bind fun k => repO xs k) := by
  obtain ⟨ta, pa, ha⟩ := ha
  obtain ⟨tb, pb, hb⟩ := hb
  refine ⟨_, pe_op op_rep pa pb, fun z hz B F0 σ H vs ds Q s k => ?_⟩
  obtain ⟨x, hx, hz⟩ := Option.bind_eq_some_iff.mp hz
  obtain ⟨y, hy, hz⟩ := Option.bind_eq_some_iff.mp hz
  unfold repO at hz
  split at hz
  · rename_i hl
    obtain ⟨b1, b2, hl⟩ := hl
    have e : (List.replicate y.toNat x).flatten = z := by simpa using hz
    subst e
    refine ha x hx B F0 σ H vs ds _ s fun v H1 s1 => hb y hy B F0 σ H1 _ _ _ s1 fun u H2 s2 => ?_
    obtain ⟨p1, us1, rfl, e1, l1, _, s4⟩ := s2.pop.lst1
    rw [List.length_map] at l1
    refine ⟨p1, y, us1, rfl, s2.isInt, e1, b1, b2, by rw [l1]; exact hl, fun p hp => k p _ ?_⟩
    refine St.newLst (xs := (((List.replicate y.toNat x).flatten).map d).map .dat) (us := (List.replicate y.toNat us1).flatten) ?_ (by rw [List.length_map, List.length_map, len_rep, len_rep, l1]) hp (by rw [len_rep, l1]; exact hl)
    refine s4.stack fun F r => ?_
    obtain ⟨r1, r2⟩ := pr_split (by rw [List.length_map, List.length_map]; exact l1) r
    rw [map_rep, map_rep]
    exact pr_app (pr_rep r1 _) (by cases r2 with | cons _ t => exact t)
  · cases hz
/-- t + u -/
theorem x_catT {o o' : Option (List α)} (ha : EX X (dT d) a ρ L o) (hb : EX X (dT d) b ρ L o') : EX X (dT d) (.BinOp a .Add b pos) ρ L (o.bind fun xs => o'.bind fun ys => catO xs ys) := by
  obtain ⟨ta, pa, ha⟩ := ha
  obtain ⟨tb, pb, hb⟩ := hb
  refine ⟨_, pe_op op_catA pa pb, fun z hz B F0 σ H vs ds Q s k => ?_⟩
  obtain ⟨x, hx, hz⟩ := Option.bind_eq_some_iff.mp hz
  obtain ⟨y, hy, hz⟩ := Option.bind_eq_some_iff.mp hz
  unfold catO szO at hz
  split at hz
  · rename_i hl
    have e : x ++ y = z := by simpa using hz
    subst e
    refine ha x hx B F0 σ H vs ds _ s fun v H1 s1 => hb y hy B F0 σ H1 _ _ _ s1 fun u H2 s2 => ?_
    obtain ⟨F, ok, sl1, sv⟩ := id s2
    cases sv with
    | cons r1 t =>
      cases t with
      | cons r2 t =>
        cases (show Rp F _ (.tuple (y.map d)) from r1) with
        | @tup p2 us2 _ g1 g2 =>
          cases (show Rp F _ (.tuple (x.map d)) from r2) with
          | @tup p1 us1 _ g3 g4 =>
            have l1 := g4.length
            have l2 := g2.length
            rw [List.length_map] at l1 l2
            refine ⟨p1, p2, us1, us2, rfl, rfl, SqT.of (ok.le _ _ g3), SqT.of (ok.le _ _ g1), by omega, fun e => ?_, fun _ e => ?_, fun _ _ p hp => ?_⟩
            · have e3 : x = [] := by rw [e] at l1; exact List.length_eq_zero_iff.mp l1.symm
              subst e3
              exact k _ _ ⟨F, ok, sl1, .cons (.tup g1 g2) t⟩
            · have e3 : y = [] := by rw [e] at l2; exact List.length_eq_zero_iff.mp l2.symm
              subst e3
              rw [List.append_nil] at k
              exact k _ _ ⟨F, ok, sl1, .cons (.tup g3 g4) t⟩
            · refine k _ _ (St.newTup (xs := (x ++ y).map d) (us := us1 ++ us2) ⟨F, ok, sl1, ?_⟩ (by rw [List.length_append, List.length_map, List.length_append]; omega) hp (by rw [List.length_append]; omega))
              rw [List.map_append, List.map_append]
              exact pr_app (pr_app (dats_of g4) (dats_of g2)) t
  · cases hz
/-! ### slices -/
def cutI {α : Type} (xs : List α) (lo hi : Option Int) : List α := (xs.drop (HT.sIx xs.length 0 lo)).take (HT.sIx xs.length xs.length hi - HT.sIx xs.length 0 lo)
/-- a part of a slice -/
def OX (X : Cx) (e : Option Expr) (ρ : Env) (L : Ow) (o : Option (Option Int)) : Prop :=
  ∃ t, PO X e t ∧ ∀ a, o = some a → ∀ B F0 σ H vs ds Q, St X.K B F0 ρ L σ H vs ds → (∀ H', St X.K B F0 ρ L σ H' vs ds → Q a H') → t σ H Q
theorem o_none : OX X none ρ L (some none) := ⟨_, po_none, fun a ha B F0 σ H vs ds Q s k => by cases ha; exact k H s⟩
theorem o_some {o : Option Int} (h : EX X dI e ρ L o) : OX X (some e) ρ L (o.map some) := by
  obtain ⟨t, p, h⟩ := h
  refine ⟨_, po_some p, fun a ha B F0 σ H vs ds Q s k => ?_⟩
  obtain ⟨i, hi, rfl⟩ := Option.map_eq_some_iff.mp ha
  exact h i hi B F0 σ H vs ds _ s fun v H1 s1 => ⟨i, s1.isInt, k _ s1.pop⟩
theorem pr_cut {K : PySem.W.Frag} {F : Hp} {us : List V} {ss : List Sl} (h : Paired (SvR K F) us ss) (lo hi : Option Int) : Paired (SvR K F) (cutV us lo hi) (cutI ss lo hi) := by
  unfold cutV cutI
  rw [Paired.length h]
  exact pr_take _ (pr_drop _ h)
theorem map_cut {τ υ : Type} (f : τ → υ) (xs : List τ) (lo hi : Option Int) : (cutI xs lo hi).map f = cutI (xs.map f) lo hi := by unfold cutI; rw [List.length_map, List.map_take, List.map_drop]
theorem cutI_length {τ : Type} (xs : List τ) (lo hi : Option Int) : (cutI xs lo hi).length ≤ xs.length := by unfold cutI; rw [List.length_take, List.length_drop]; omega
theorem n_slice {lo hi : Option Expr} {p2 : Pos} {o : Option (List α)} {ol oh : Option (Option Int)} (h : QL X d e ρ L o) (hl : OX X lo ρ L ol) (hh : OX X hi ρ L oh) : EN X d (.Subscript e (.Slice lo hi none p2) pos) ρ L (o.bind fun xs => ol.bind fun l => oh.map fun u => cutI xs l u) := by
  obtain ⟨t, p, h⟩ := h
  obtain ⟨t1, p1, hl⟩ := hl
  obtain ⟨t2, p2', hh⟩ := hh
  refine ⟨_, pe_slice sl_list p p1 p2', fun z hz B F0 σ H vs ds Q s k => ?_⟩
  obtain ⟨x, hx, hz⟩ := Option.bind_eq_some_iff.mp hz
  obtain ⟨l, hl', hz⟩ := Option.bind_eq_some_iff.mp hz
  obtain ⟨u, hu, rfl⟩ := Option.map_eq_some_iff.mp hz
  refine h x hx B F0 σ H vs ds _ s fun v sl H1 q s1 => hl l hl' B F0 σ H1 _ _ _ s1 fun H2 s2 => hh u hu B F0 σ H2 _ _ _ s2 fun H3 s3 => ?_
  obtain ⟨a, us, rfl, h1, h2, h4, s4⟩ := s3.lstOf q
  rw [List.length_map] at h2
  refine ⟨a, us, rfl, SqL.of h1, fun p hp => k p _ ?_⟩
  have e3 : (cutV us l u).length = (((cutI x l u).map d).map Sl.dat).length := by
    rw [List.length_map, List.length_map]; unfold cutV cutI; rw [List.length_take, List.length_drop, List.length_take, List.length_drop, h2]
  refine St.newLst (us := cutV us l u) ?_ e3 hp (Nat.le_trans (cutV_length us l u) h4)
  refine s4.stack fun F r => ?_
  obtain ⟨r1, r2⟩ := pr_split (by rw [List.length_map, List.length_map]; exact h2) r
  rw [map_cut, map_cut]
  exact pr_app (pr_cut r1 l u) (by cases r2 with | cons _ t => exact t)
theorem x_sliceT {lo hi : Option Expr} {p2 : Pos} {o : Option (List α)} {ol oh : Option (Option Int)} (h : EX X (dT d) e ρ L o) (hl : OX X lo ρ L ol) (hh : OX X hi ρ L oh) : EX X (dT d) (.Subscript e (.Slice lo hi none p2) pos) ρ L (o.bind fun xs => ol.bind fun l => oh.map fun u => cutI xs l u) := by
  obtain ⟨t, p, h⟩ := h
  obtain ⟨t1, p1, hl⟩ := hl
  obtain ⟨t2, p2', hh⟩ := hh
  refine ⟨_, pe_slice sl_tupA p p1 p2', fun z hz B F0 σ H vs ds Q s k => ?_⟩
  obtain ⟨x, hx, hz⟩ := Option.bind_eq_some_iff.mp hz
  obtain ⟨l, hl', hz⟩ := Option.bind_eq_some_iff.mp hz
  obtain ⟨u, hu, rfl⟩ := Option.map_eq_some_iff.mp hz
  refine h x hx B F0 σ H vs ds _ s fun v H1 s1 => hl l hl' B F0 σ H1 _ _ _ s1 fun H2 s2 => hh u hu B F0 σ H2 _ _ _ s2 fun H3 s3 => ?_
  obtain ⟨a, us, rfl, h1, h2, h4, s4⟩ := s3.tup1
  rw [List.length_map] at h2
  have e3 : (cutV us l u).length = ((cutI x l u).map d).length := by
    rw [List.length_map]; unfold cutV cutI; rw [List.length_take, List.length_drop, List.length_take, List.length_drop, h2]
  refine ⟨a, us, rfl, SqT.of h1, fun w => ?_, fun _ p hp => k _ _ ?_⟩
  · have e4 : cutI x l u = x := by
      rw [h2] at w
      unfold cutI
      rw [w.1, w.2, List.drop_zero, Nat.sub_zero, List.take_length]
    rw [e4] at k
    exact k _ _ s3
  · refine St.newTup (us := cutV us l u) ?_ e3 hp (Nat.le_trans (cutV_length us l u) h4)
    refine s4.stack fun F r => ?_
    obtain ⟨r1, r2⟩ := pr_split (by rw [List.length_map, List.length_map]; exact h2) r
    rw [map_cut, map_cut]
    exact pr_app (pr_cut r1 l u) (by cases r2 with | cons _ t => exact t)
end
end Mir
namespace Mir
open PySem L2

/-! ### sorted -/
def rSortD (K : PySem.W.Frag) : List V → Hp → VK → Prop := fun vs H Q => ∃ (a : Addr) (bs : List (V × PyData)), vs = [.ref a] ∧ SqL K H a (bs.map (·.1)) ∧ (∀ b ∈ bs, Dp K H b.1 b.2) ∧ PySem.W.AllAlike (bs.map (·.2)) ∧ PySem.W.Sortable (bs.map (·.2)) ∧ (∀ b ∈ bs, b.2.depth ≤ 64) ∧
  ∀ p, H p = none → Q (.ref p) (upd H p (.lst ((bs.mergeSort (PySem.W.dataLe false (·.2))).map (·.1))))
section
variable {X : Cx} {pins : List (Addr × Obj)} {σ : L2.St} {H : Hp} {s : Shared}
theorem each_of {bs : List (V × PyData)} : ∀ {us : List Value}, Vals (bs.map (·.1)) us → PySem.W.EachIs (fun u (b : V × PyData) => RelV b.1 u) us bs := by
  induction bs with
  | nil => intro us h; cases h; exact .nil
  | cons b bs ih =>
    intro us h
    cases h with
    | cons r t => exact .cons r (ih t)
theorem of_each {bs : List (V × PyData)} {us : List Value} (h : PySem.W.EachIs (fun u (b : V × PyData) => RelV b.1 u) us bs) : Vals (bs.map (·.1)) us := by
  induction h with
  | nil => exact .nil
  | cons r t ih => exact .cons r ih
theorem each_reads (I : Inv X pins σ H s) : ∀ {bs : List (V × PyData)} {us : List Value}, (∀ b ∈ bs, Dp X.K H b.1 b.2) → Vals (bs.map (·.1)) us → PySem.W.EachIs (fun u (b : V × PyData) => ∃ as, Reads s.heap u b.2 as) us bs
  | [], us, _, h => by cases h; exact .nil
  | b :: bs, us, hd, h => by
    cases h with
    | cons r t => exact .cons (Dp.reads I _ _ _ (hd b List.mem_cons_self) r) (each_reads I (fun c hc => hd c (List.mem_cons_of_mem _ hc)) t)
theorem cr_sortD (hu : X.A.units + 70 < cLine) : CallR X (.builtin "sorted") (rSortD X.K) := by
  intro pins s σ H vs us Q I r h
  obtain ⟨a, bs, rfl, hs, hd, hal, hk, hdep, q⟩ := h
  obtain ⟨its, rv, hl, hz⟩ := I.list hs
  rw [Vals.ref1 r]
  rw [List.length_map] at hz
  refine PySem.W.sorted_data (bs := bs) (enc := (·.2)) hl.isList (each_of rv) (each_reads I hd rv) hal hk hz (fun b hb => by have := hdep b hb; omega) fun out e1 e2 => ?_
  obtain ⟨ep, he'⟩ := PyProof.Rows.sortedAll_at s.heap its out.toArray
  have hv := of_each e2
  have hlen : ((bs.mergeSort (PySem.W.dataLe false (·.2))).map (·.1)).length ≤ sizeLine := by rw [List.length_map, List.length_mergeSort]; exact hz
  exact ⟨.ref _, upd H (s.heap.objs.size + 1) (.lst ((bs.mergeSort (PySem.W.dataLe false (·.2))).map (·.1))), I.laid (t' := s.toks) (fun _ _ => PyProof.Rows.sortedAll_old) (Nat.le_succ _) ⟨hlen, out, ep, hv, he'⟩, rfl, q _ (I.hok.fresh (Nat.le_succ _))⟩
end
/-- how data of one kind is sorted -/
structure Srt {α : Type} (d : α → PyData) (le : α → α → Bool) : Prop where
  ali : ∀ a b, PySem.W.alike (d a) (d b) = true
  srt : (∀ a, ∃ x r, d a = .tuple (x :: r)) ∨ ∀ a, d a ≠ .none ∧ ∀ xs, d a ≠ .tuple xs
  le : PySem.W.dataLe false d = le
  dep : ∀ a, (d a).depth ≤ 64
def leI (i j : Int) : Bool := decide (i ≤ j)
def leP (p q : Int × Int) : Bool := decide (p.1 < q.1 ∨ (p.1 = q.1 ∧ p.2 ≤ q.2))
theorem srt_int : Srt dI leI := ⟨fun _ _ => by simp [PySem.W.alike], .inr fun a => ⟨fun z => (by cases z), fun xs z => (by cases z)⟩, PySem.W.dataLe_int (fun i : Int => i), fun _ => by simp [PyData.depth]⟩
theorem srt_pair : Srt (dP dI dI) leP := ⟨fun a b => by simp [dP, PySem.W.alike, PySem.W.alikeAll], .inl fun a => ⟨_, _, rfl⟩, PySem.W.dataLe_ii (fun p : Int × Int => p.1) (fun p => p.2), fun _ => by simp [dP, PyData.depth, PyData.depthAll]⟩
section
variable {X : Cx} {α β γ : Type} {a b e : Expr} {ρ : Env} {L : Ow} {p pos : Pos} {d : α → PyData} {d' : β → PyData} {j : Nat}
theorem zip_fst {τ υ : Type} : ∀ {xs : List τ} {ys : List υ}, xs.length = ys.length → (xs.zip ys).map (·.1) = xs
  | [], [], _ => rfl
  | x :: xs, y :: ys, h => by rw [List.zip_cons_cons, List.map_cons, zip_fst (by simpa using h)]
theorem zip_snd {τ υ : Type} : ∀ {xs : List τ} {ys : List υ}, xs.length = ys.length → (xs.zip ys).map (·.2) = ys
  | [], [], _ => rfl
  | x :: xs, y :: ys, h => by rw [List.zip_cons_cons, List.map_cons, zip_snd (by simpa using h)]
theorem zip_mem {τ υ : Type} {R : τ → υ → Prop} : ∀ {xs : List τ} {ys : List υ}, Paired R xs ys → ∀ q ∈ xs.zip ys, R q.1 q.2
  | _, _, .nil, q, h => by simp at h
  | _, _, .cons r t, q, h => by
    rw [List.zip_cons_cons] at h
    rcases List.mem_cons.mp h with e | h
    · rw [e]; exact r
    · exact zip_mem t q h
theorem of_zip {τ υ : Type} {R : τ → υ → Prop} : ∀ {bs : List (τ × υ)}, (∀ q ∈ bs, R q.1 q.2) → Paired R (bs.map (·.1)) (bs.map (·.2))
  | [], _ => .nil
  | b :: bs, h => .cons (h b List.mem_cons_self) (of_zip fun q hq => h q (List.mem_cons_of_mem _ hq))
theorem sort_read {le : α → α → Bool} (hd : Srt d le) {K : PySem.W.Frag} {B F0 : Hp} {σ : L2.St} {H : Hp} {vs : List V} {ds : List Sl} {v : V} {sl : Sl} {xs : List α} {Q : VK} (q : LstOf L sl (xs.map d)) (s : St K B F0 ρ L σ H (v :: vs) (sl :: ds))
    (k : ∀ p H', St K B F0 ρ (L ++ [(p, .lst (((xs.mergeSort le).map d).map .dat))]) σ H' (.ref p :: vs) (.ptr p :: ds) → Q (.ref p) H') : rSortD K [v] H Q := by
  obtain ⟨a, us, rfl, h1, h2, h3, h4⟩ := s.lstOf q
  obtain ⟨F, ok, sl', sv⟩ := id h4
  obtain ⟨sv1, sv2⟩ := pr_split (by rw [List.length_map]; exact h2) sv
  have rp := (dats sv1).paired
  have e1 : (us.zip (xs.map d)).map (·.1) = us := zip_fst h2
  have e2 : (us.zip (xs.map d)).map (·.2) = xs.map d := zip_snd h2
  refine ⟨a, us.zip (xs.map d), rfl, SqL.of (by rw [e1]; exact h1), fun b hb => Rp.dp ok.le _ _ (zip_mem rp b hb), ?_, ?_, fun b hb => ?_, fun p hp => ?_⟩
  · rw [e2]
    intro x hx y hy
    obtain ⟨x', _, rfl⟩ := List.mem_map.mp hx
    obtain ⟨y', _, rfl⟩ := List.mem_map.mp hy
    exact hd.ali x' y'
  · rw [e2]
    rcases hd.srt with h | h
    · exact .inl fun x hx => by obtain ⟨x', _, rfl⟩ := List.mem_map.mp hx; exact h x'
    · exact .inr fun x hx => by obtain ⟨x', _, rfl⟩ := List.mem_map.mp hx; exact h x'
  · have : b.2 ∈ xs.map d := by rw [← e2]; exact List.mem_map_of_mem hb
    obtain ⟨x', _, e⟩ := List.mem_map.mp this
    rw [← e]
    exact hd.dep x'
  · have e3 : ((us.zip (xs.map d)).mergeSort (PySem.W.dataLe false (·.2))).map (·.2) = (xs.mergeSort le).map d := by
      refine Eq.trans (PySem.W.sort_maps (r := PySem.W.dataLe false (fun b : V × PyData => b.2)) (s := PySem.W.dataLe false (fun x : PyData => x)) (fun b : V × PyData => b.2) (fun _ _ _ _ => rfl)) ?_
      rw [e2, ← hd.le]
      exact (PySem.W.sort_maps (r := PySem.W.dataLe false d) (s := PySem.W.dataLe false (fun x : PyData => x)) d (fun _ _ _ _ => rfl)).symm
    have pz := of_zip (R := fun (v : V) (x : PyData) => Rp F v x) (bs := (us.zip (xs.map d)).mergeSort (PySem.W.dataLe false (·.2))) fun q hq => zip_mem rp q ((List.mergeSort_perm _ _).mem_iff.mp hq)
    rw [e3] at pz
    have hlen : (((us.zip (xs.map d)).mergeSort (PySem.W.dataLe false (·.2))).map (·.1)).length = us.length := by
      rw [List.length_map, List.length_mergeSort, List.length_zip, List.length_map]
      rw [List.length_map] at h2
      omega
    refine k p _ (St.newLst (us := ((us.zip (xs.map d)).mergeSort (PySem.W.dataLe false (·.2))).map (·.1)) ?_ ?_ hp (by rw [hlen]; exact h3))
    · exact ⟨F, ok, sl', pr_app (dats_of (Rps.of pz)) (by cases sv2 with | cons _ t => exact t)⟩
    · rw [hlen, h2]; simp
theorem n_sorted {le : α → α → Bool} {o : Option (List α)} (hd : Srt d le) (hr : Room j X.A) (h : QL X d e ρ L o) (hm : X.mg "sorted" = none) (hs : starEach [e] X.env = (false, eval e X.env) :: starEach [] X.env := by rfl)
    (hh : X.mg "sorted" = none → ∀ {ta}, PE X e ta → X.A.units + 70 < cLine → PE X (.Call (.Name "sorted" p) [e] [] pos) (tCB (rSortD X.K) (tCons ta tNil)) := by intro hm _ h hu; exact pe_callB (cr_sortD hu) (by rfl) hm (by decide +kernel) (pa_cons h pa_nil)) :
    EN X d (.Call (.Name "sorted" p) [e] [] pos) ρ L (o.map fun xs => xs.mergeSort le) := by
  obtain ⟨t, p, h⟩ := h
  refine ⟨_, hh hm p (by have := hr.un; omega), fun z hz B F0 σ H vs ds Q s k => ?_⟩
  obtain ⟨xs, hx, rfl⟩ := Option.map_eq_some_iff.mp hz
  exact h xs hx B F0 σ H vs ds _ s fun v sl H1 q s1 => sort_read hd q s1 k

/-! ### sums, the greatest, the least; list(range(..)) -/
def maxO : List Int → Option Int
  | [] => none
  | x :: xs => some (xs.foldl max x)
def minO : List Int → Option Int
  | [] => none
  | x :: xs => some (xs.foldl min x)
theorem foldl_max_mem : ∀ (xs : List Int) (x : Int), xs.foldl max x ∈ x :: xs ∧ ∀ y ∈ x :: xs, y ≤ xs.foldl max x
  | [], x => by simp
  | z :: xs, x => by
    obtain ⟨h1, h2⟩ := foldl_max_mem xs (max x z)
    refine ⟨?_, fun y hy => ?_⟩
    · rw [List.foldl_cons]
      rcases List.mem_cons.mp h1 with h | h
      · rw [h]
        rcases Int.le_total x z with q | q
        · rw [Int.max_eq_right q]; simp
        · rw [Int.max_eq_left q]; simp
      · exact List.mem_cons_of_mem _ (List.mem_cons_of_mem _ h)
    · rw [List.foldl_cons]
      have h0 := h2 (max x z) List.mem_cons_self
      rcases List.mem_cons.mp hy with rfl | hy
      · exact Int.le_trans (Int.le_max_left _ _) h0
      · rcases List.mem_cons.mp hy with rfl | hy
        · exact Int.le_trans (Int.le_max_right _ _) h0
        · exact h2 y (List.mem_cons_of_mem _ hy)
theorem foldl_min_mem : ∀ (xs : List Int) (x : Int), xs.foldl min x ∈ x :: xs ∧ ∀ y ∈ x :: xs, xs.foldl min x ≤ y
  | [], x => by simp
  | z :: xs, x => by
    obtain ⟨h1, h2⟩ := foldl_min_mem xs (min x z)
    refine ⟨?_, fun y hy => ?_⟩
    · rw [List.foldl_cons]
      rcases List.mem_cons.mp h1 with h | h
      · rw [h]
        rcases Int.le_total x z with q | q
        · rw [Int.min_eq_left q]; simp
        · rw [Int.min_eq_right q]; simp
      · exact List.mem_cons_of_mem _ (List.mem_cons_of_mem _ h)
    · rw [List.foldl_cons]
      have h0 := h2 (min x z) List.mem_cons_self
      rcases List.mem_cons.mp hy with rfl | hy
      · exact Int.le_trans h0 (Int.min_le_left _ _)
      · rcases List.mem_cons.mp hy with rfl | hy
        · exact Int.le_trans h0 (Int.min_le_right _ _)
        · exact h2 y (List.mem_cons_of_mem _ hy)
theorem St.lstInts {K : PySem.W.Frag} {B F0 H : Hp} {σ : L2.St} {vs : List V} {ds : List Sl} {v : V} {s : Sl} {xs : List Int} (q : LstOf L s (xs.map dI)) (h : St K B F0 ρ L σ H (v :: vs) (s :: ds)) : ∃ a, v = .ref a ∧ H a = some (.lst (xs.map V.int)) := by
  obtain ⟨a, us, e, h1, h2, _, h3⟩ := h.lstOf q
  rw [List.length_map] at h2
  have := h3.ints h2
  rw [this] at h1
  exact ⟨a, e, h1⟩
theorem x_sum {o : Option (List Int)} (hc : X.calm = true) (h : QL X dI e ρ L o) (hm : X.mg "sum" = none) (hs : starEach [e] X.env = (false, eval e X.env) :: starEach [] X.env := by rfl)
    (hh : X.mg "sum" = none → ∀ {ta}, PE X e ta → PE X (.Call (.Name "sum" p) [e] [] pos) (tCB (rSum X.K) (tCons ta tNil)) := by intro hm _ h; exact pe_callB (cr_sum rfl) (by rfl) hm (by decide +kernel) (pa_cons h pa_nil)) :
    EX X dI (.Call (.Name "sum" p) [e] [] pos) ρ L (o.map List.sum) := by
  obtain ⟨t, p, h⟩ := h
  refine ⟨_, hh hm p, fun z hz B F0 σ H vs ds Q s k => ?_⟩
  obtain ⟨xs, hx, rfl⟩ := Option.map_eq_some_iff.mp hz
  refine h xs hx B F0 σ H vs ds _ s fun v sl H1 q s1 => ?_
  obtain ⟨a, rfl, h1⟩ := s1.lstInts q
  exact ⟨a, xs, rfl, SqL.of h1, k _ _ s1.pop.int⟩
theorem x_max {o : Option (List Int)} (hc : X.calm = true) (h : QL X dI e ρ L o) (hm : X.mg "max" = none) (hs : starEach [e] X.env = (false, eval e X.env) :: starEach [] X.env := by rfl)
    (hh : X.mg "max" = none → ∀ {ta}, PE X e ta → PE X (.Call (.Name "max" p) [e] [] pos) (tCB (rMax X.K) (tCons ta tNil)) := by intro hm _ h; exact pe_callB (cr_max rfl) (by rfl) hm (by decide +kernel) (pa_cons h pa_nil)) :
    EX X dI (.Call (.Name "max" p) [e] [] pos) ρ L (o.bind maxO) := by
  obtain ⟨t, p, h⟩ := h
  refine ⟨_, hh hm p, fun z hz B F0 σ H vs ds Q s k => ?_⟩
  obtain ⟨xs, hx, hz⟩ := Option.bind_eq_some_iff.mp hz
  refine h xs hx B F0 σ H vs ds _ s fun v sl H1 q s1 => ?_
  obtain ⟨a, rfl, h1⟩ := s1.lstInts q
  cases xs with
  | nil => cases hz
  | cons x xs =>
    have e : xs.foldl max x = z := by simpa [maxO] using hz
    subst e
    refine ⟨a, x :: xs, rfl, SqL.of h1, Nat.zero_lt_succ _, fun m h2 h3 => ?_⟩
    obtain ⟨g1, g2⟩ := foldl_max_mem xs x
    have e : m = xs.foldl max x := Int.le_antisymm (g2 m h2) (h3 _ g1)
    rw [e]
    exact k _ _ s1.pop.int
theorem x_min {o : Option (List Int)} (hc : X.calm = true) (h : QL X dI e ρ L o) (hm : X.mg "min" = none) (hs : starEach [e] X.env = (false, eval e X.env) :: starEach [] X.env := by rfl)
    (hh : X.mg "min" = none → ∀ {ta}, PE X e ta → PE X (.Call (.Name "min" p) [e] [] pos) (tCB (rMin X.K) (tCons ta tNil)) := by intro hm _ h; exact pe_callB (cr_min rfl) (by rfl) hm (by decide +kernel) (pa_cons h pa_nil)) :
    EX X dI (.Call (.Name "min" p) [e] [] pos) ρ L (o.bind minO) := by
  obtain ⟨t, p, h⟩ := h
  refine ⟨_, hh hm p, fun z hz B F0 σ H vs ds Q s k => ?_⟩
  obtain ⟨xs, hx, hz⟩ := Option.bind_eq_some_iff.mp hz
  refine h xs hx B F0 σ H vs ds _ s fun v sl H1 q s1 => ?_
  obtain ⟨a, rfl, h1⟩ := s1.lstInts q
  cases xs with
  | nil => cases hz
  | cons x xs =>
    have e : xs.foldl min x = z := by simpa [minO] using hz
    subst e
    refine ⟨a, x :: xs, rfl, SqL.of h1, Nat.zero_lt_succ _, fun m h2 h3 => ?_⟩
    obtain ⟨g1, g2⟩ := foldl_min_mem xs x
    have e : m = xs.foldl min x := Int.le_antisymm (h3 _ g1) (g2 m h2)
    rw [e]
    exact k _ _ s1.pop.int
/-- built-ins of ints by values -/
def Call1 (K : PySem.W.Frag) (r : List V → Hp → VK → Prop) (d : α → PyData) (f : β → PyData) (g : α → Option β) : Prop :=
  ∀ x z, g x = some z → ∀ B F0 ρ L σ H vs ds v Q, St K B F0 ρ L σ H (v :: vs) (.dat (d x) :: ds) → (∀ w H', St K B F0 ρ L σ H' (w :: vs) (.dat (f z) :: ds) → Q w H') → r [v] H Q
def Call2 (K : PySem.W.Frag) (r : List V → Hp → VK → Prop) (d : α → PyData) (e : β → PyData) (f : γ → PyData) (g : α → β → Option γ) : Prop :=
  ∀ x y z, g x y = some z → ∀ B F0 ρ L σ H vs ds v u Q, St K B F0 ρ L σ H (u :: v :: vs) (.dat (e y) :: .dat (d x) :: ds) → (∀ w H', St K B F0 ρ L σ H' (w :: vs) (.dat (f z) :: ds) → Q w H') → r [v, u] H Q
theorem x_b1 {id : String} {x : Str} {r : List V → Hp → VK → Prop} {g : α → Option β} {o : Option α} (hc : CallR X (.builtin id) r) (hgc : Call1 X.K r d d' g) (h : EX X d e ρ L o) (hm : X.mg x = none) (hv : bootBuiltins x = some (.builtin id)) (hs : starEach [e] X.env = (false, eval e X.env) :: starEach [] X.env := by rfl)
    (hh : CallR X (.builtin id) r → X.mg x = none → bootBuiltins x = some (.builtin id) → ∀ {ta}, PE X e ta → PE X (.Call (.Name x p) [e] [] pos) (tCB r (tCons ta tNil)) := by intro hc hm hv _ h; exact pe_callB hc (by rfl) hm hv (pa_cons h pa_nil)) : EX X d' (.Call (.Name x p) [e] [] pos) ρ L (o.bind g) := by
  obtain ⟨t, q, h⟩ := h
  refine ⟨_, hh hc hm hv q, fun z hz B F0 σ H vs ds Q s k => ?_⟩
  obtain ⟨y, hy, hz⟩ := Option.bind_eq_some_iff.mp hz
  exact h y hy B F0 σ H vs ds _ s fun v H1 s1 => hgc y z hz B F0 ρ L σ H1 vs ds v Q s1 k
theorem x_t1 {T : String} {x : Str} {r : List V → Hp → VK → Prop} {g : α → Option β} {o : Option α} (hc : CallR X (.type T) r) (hgc : Call1 X.K r d d' g) (h : EX X d e ρ L o) (hm : X.mg x = none) (hv : bootBuiltins x = some (.type T)) (hs : starEach [e] X.env = (false, eval e X.env) :: starEach [] X.env := by rfl)
    (hh : CallR X (.type T) r → X.mg x = none → bootBuiltins x = some (.type T) → ∀ {ta}, PE X e ta → PE X (.Call (.Name x p) [e] [] pos) (tCB r (tCons ta tNil)) := by intro hc hm hv _ h; exact pe_callTy hc (by rfl) hm hv (pa_cons h pa_nil)) : EX X d' (.Call (.Name x p) [e] [] pos) ρ L (o.bind g) := by
  obtain ⟨t, q, h⟩ := h
  refine ⟨_, hh hc hm hv q, fun z hz B F0 σ H vs ds Q s k => ?_⟩
  obtain ⟨y, hy, hz⟩ := Option.bind_eq_some_iff.mp hz
  exact h y hy B F0 σ H vs ds _ s fun v H1 s1 => hgc y z hz B F0 ρ L σ H1 vs ds v Q s1 k
theorem x_b2 {id : String} {x : Str} {r : List V → Hp → VK → Prop} {f : γ → PyData} {g : α → β → Option γ} {o : Option α} {o' : Option β} (hc : CallR X (.builtin id) r) (hgc : Call2 X.K r d d' f g) (h : EX X d a ρ L o) (h' : EX X d' b ρ L o') (hm : X.mg x = none) (hv : bootBuiltins x = some (.builtin id))
    (hs : starEach [a, b] X.env = (false, eval a X.env) :: starEach [b] X.env := by rfl) (hs2 : starEach [b] X.env = (false, eval b X.env) :: starEach [] X.env := by rfl)
    (hh : CallR X (.builtin id) r → X.mg x = none → bootBuiltins x = some (.builtin id) → ∀ {ta tb}, PE X a ta → PE X b tb → PE X (.Call (.Name x p) [a, b] [] pos) (tCB r (tCons ta (tCons tb tNil))) := by intro hc hm hv _ _ h h'; exact pe_callB hc (by rfl) hm hv (pa_cons h (pa_cons h' pa_nil))) : EX X f (.Call (.Name x p) [a, b] [] pos) ρ L (o.bind fun x => o'.bind fun y => g x y) := by
  obtain ⟨t, q, h⟩ := h
  obtain ⟨t', q', h'⟩ := h'
  refine ⟨_, hh hc hm hv q q', fun z hz B F0 σ H vs ds Q s k => ?_⟩
  obtain ⟨y, hy, hz⟩ := Option.bind_eq_some_iff.mp hz
  obtain ⟨y', hy', hz⟩ := Option.bind_eq_some_iff.mp hz
  exact h y hy B F0 σ H vs ds _ s fun v H1 s1 => h' y' hy' B F0 σ H1 _ _ _ s1 fun u H2 s2 => hgc y y' z hz B F0 ρ L σ H2 vs ds v u Q s2 k
theorem c_abs {K : PySem.W.Frag} : Call1 K (fun xs H Q => ∃ i, xs = [.int i] ∧ Q (.int (if i < 0 then -i else i)) H) dI dI (fun i => some (if i < 0 then -i else i)) := by
  intro x z hz B F0 ρ L σ H vs ds v Q s k
  cases hz
  exact ⟨x, by rw [s.isInt], k _ _ s.pop.int⟩
theorem c_int {K : PySem.W.Frag} : Call1 K (fun xs H Q => (∃ i, xs = [.int i] ∧ Q (.int i) H) ∨ ∃ k, xs = [.bl k] ∧ Q (.int (if k then 1 else 0)) H) dI dI (fun i => some i) := by
  intro x z hz B F0 ρ L σ H vs ds v Q s k
  cases hz
  exact .inl ⟨x, by rw [s.isInt], k _ _ s.pop.int⟩
theorem c_intB {K : PySem.W.Frag} : Call1 K (fun xs H Q => (∃ i, xs = [.int i] ∧ Q (.int i) H) ∨ ∃ k, xs = [.bl k] ∧ Q (.int (if k then 1 else 0)) H) dB dI (fun i => some (if i then 1 else 0)) := by
  intro x z hz B F0 ρ L σ H vs ds v Q s k
  cases hz
  exact .inr ⟨x, by rw [s.isBl], k _ _ s.pop.int⟩
theorem c_max2 {K : PySem.W.Frag} : Call2 K (fun xs H Q => ∃ i j, xs = [.int i, .int j] ∧ Q (.int (if j > i then j else i)) H) dI dI dI (fun i j => some (max i j)) := by
  intro x y z hz B F0 ρ L σ H vs ds v u Q s k
  cases hz
  refine ⟨x, y, by rw [s.isInt, s.pop.isInt], ?_⟩
  have e : (if y > x then y else x) = max x y := by rw [Int.max_def]; split <;> split <;> omega
  rw [e]
  exact k _ _ s.pop.pop.int
theorem c_min2 {K : PySem.W.Frag} : Call2 K (fun xs H Q => ∃ i j, xs = [.int i, .int j] ∧ Q (.int (if j < i then j else i)) H) dI dI dI (fun i j => some (min i j)) := by
  intro x y z hz B F0 ρ L σ H vs ds v u Q s k
  cases hz
  refine ⟨x, y, by rw [s.isInt, s.pop.isInt], ?_⟩
  have e : (if y < x then y else x) = min x y := by rw [Int.min_def]; split <;> split <;> omega
  rw [e]
  exact k _ _ s.pop.pop.int
theorem rgV_eq (a b : Int) : rgV a b = (rng a b).map V.int := by unfold rgV rng; rw [List.map_map]; rfl
theorem RgOk.of_rngL {a b : Int} {xs : List Int} (h : rngL a b = some xs) : RgOk a b := by
  obtain ⟨h1, h2, h3, _⟩ := rngL_some h
  exact ⟨(bigI_iff h1).1, (bigI_iff h1).2, (bigI_iff h2).1, (bigI_iff h2).2, h3⟩
theorem ints_st {K : PySem.W.Frag} {B F0 H : Hp} {σ : L2.St} {vs : List V} {ds : List Sl} (ns : List Int) (h : St K B F0 ρ L σ H vs ds) : St K B F0 ρ L σ H (ns.map V.int ++ vs) ((ns.map dI).map .dat ++ ds) := h.stack fun F r => pr_app (ints_sv ns) r
theorem n_listRg {o : Option Int} {p2 pos2 : Pos} (hc : X.calm = true) (h : EX X dI e ρ L o) (hm : X.mg "list" = none) (hm2 : X.mg "range" = none) (hg : Gl X "list" := by rfl) (hg2 : Gl X "range" := by rfl) (hs : starEach [e] X.env = (false, eval e X.env) :: starEach [] X.env := by rfl)
    (hs2 : starEach [.Call (.Name "range" p2) [e] [] pos2] X.env = (false, eval (.Call (.Name "range" p2) [e] [] pos2) X.env) :: starEach [] X.env := by rfl) :
    EN X dI (.Call (.Name "list" p) [.Call (.Name "range" p2) [e] [] pos2] [] pos) ρ L (o.bind fun n => rngL 0 n) := by
  obtain ⟨t, q, h⟩ := h
  refine ⟨_, pe_listRg hc hg hm (prg_1 hg2 hm2 q hs) hs2, fun z hz B F0 σ H vs ds Q s k => ?_⟩
  obtain ⟨n, hn, hz⟩ := Option.bind_eq_some_iff.mp hz
  refine h n hn B F0 σ H vs ds _ s fun v H1 s1 => ⟨n, s1.isInt, RgOk.of_rngL hz, fun p hp => ?_⟩
  obtain ⟨_, _, h3, rfl⟩ := rngL_some hz
  rw [rgV_eq]
  exact k p _ (St.newLst (ints_st _ s1.pop) (by simp) hp (by rw [List.length_map, rng_length]; exact Nat.le_trans h3 (by decide)))
theorem n_listRg2 {o o' : Option Int} {p2 pos2 : Pos} (hc : X.calm = true) (h : EX X dI a ρ L o) (h' : EX X dI b ρ L o') (hm : X.mg "list" = none) (hm2 : X.mg "range" = none) (hg : Gl X "list" := by rfl) (hg2 : Gl X "range" := by rfl) (hs : starEach [a, b] X.env = (false, eval a X.env) :: starEach [b] X.env := by rfl) (hs1 : starEach [b] X.env = (false, eval b X.env) :: starEach [] X.env := by rfl)
    (hs3 : (backTo pos2 (starEach [b] X.env)).any (·.1) = false := by rfl) (hs2 : starEach [.Call (.Name "range" p2) [a, b] [] pos2] X.env = (false, eval (.Call (.Name "range" p2) [a, b] [] pos2) X.env) :: starEach [] X.env := by rfl) :
    EN X dI (.Call (.Name "list" p) [.Call (.Name "range" p2) [a, b] [] pos2] [] pos) ρ L (o.bind fun n => o'.bind fun m => rngL n m) := by
  obtain ⟨t, q, h⟩ := h
  obtain ⟨t', q', h'⟩ := h'
  refine ⟨_, pe_listRg hc hg hm (prg_2 hg2 hm2 q q' hs hs1 hs3) hs2, fun z hz B F0 σ H vs ds Q s k => ?_⟩
  obtain ⟨n, hn, hz⟩ := Option.bind_eq_some_iff.mp hz
  obtain ⟨m, hm, hz⟩ := Option.bind_eq_some_iff.mp hz
  refine h n hn B F0 σ H vs ds _ s fun v H1 s1 => h' m hm B F0 σ H1 _ _ _ s1 fun u H2 s2 => ⟨n, m, s1.isInt, s2.isInt, RgOk.of_rngL hz, fun p hp => ?_⟩
  obtain ⟨_, _, h3, rfl⟩ := rngL_some hz
  rw [rgV_eq]
  exact k p _ (St.newLst (ints_st _ s2.pop.pop) (by simp) hp (by rw [List.length_map, rng_length]; exact Nat.le_trans h3 (by decide)))
theorem x_tupRg {o : Option Int} {p2 pos2 : Pos} (hc : X.calm = true) (h : EX X dI e ρ L o) (hm : X.mg "tuple" = none) (hm2 : X.mg "range" = none) (hg : Gl X "tuple" := by rfl) (hg2 : Gl X "range" := by rfl) (hs : starEach [e] X.env = (false, eval e X.env) :: starEach [] X.env := by rfl)
    (hs2 : starEach [.Call (.Name "range" p2) [e] [] pos2] X.env = (false, eval (.Call (.Name "range" p2) [e] [] pos2) X.env) :: starEach [] X.env := by rfl) :
    EX X (dT dI) (.Call (.Name "tuple" p) [.Call (.Name "range" p2) [e] [] pos2] [] pos) ρ L (o.bind fun n => rngL 0 n) := by
  obtain ⟨t, q, h⟩ := h
  refine ⟨_, pe_tupRg hc hg hm (prg_1 hg2 hm2 q hs) hs2, fun z hz B F0 σ H vs ds Q s k => ?_⟩
  obtain ⟨n, hn, hz⟩ := Option.bind_eq_some_iff.mp hz
  refine h n hn B F0 σ H vs ds _ s fun v H1 s1 => ⟨n, s1.isInt, RgOk.of_rngL hz, fun p hp => ?_⟩
  obtain ⟨_, _, h3, rfl⟩ := rngL_some hz
  rw [rgV_eq]
  exact k _ _ (St.newTup (ints_st _ s1.pop) (by simp) hp (by rw [List.length_map, rng_length]; exact Nat.le_trans h3 (by decide)))
/-- isinstance(x, bool) of a bool, of an int -/
theorem isi_bool {K : PySem.W.Frag} : PySem.W.kitOne K (.type "bool") (.type "bool") = some true := by unfold PySem.W.kitOne; rw [if_pos (by decide)]
theorem x_isBool {o : Option Bool} {p2 : Pos} (h : EX X dB e ρ L o) (hm : X.mg "isinstance" = none) (hm2 : X.mg "bool" = none) (hg2 : Gl X "bool" := by rfl) (hs : starEach [e, .Name "bool" p2] X.env = (false, eval e X.env) :: starEach [.Name "bool" p2] X.env := by rfl) (hs2 : starEach [.Name "bool" p2] X.env = (false, eval (.Name "bool" p2) X.env) :: starEach [] X.env := by rfl)
    (hh : X.mg "isinstance" = none → ∀ {t}, PA X [e, .Name "bool" p2] t → PE X (.Call (.Name "isinstance" p) [e, .Name "bool" p2] [] pos) (tCB (rIsi X.K) t) := by intro hm _ h; exact pe_callB call_isi (by rfl) hm (by decide +kernel) h) :
    EX X dB (.Call (.Name "isinstance" p) [e, .Name "bool" p2] [] pos) ρ L (o.map fun _ => true) := by
  obtain ⟨t, q, h⟩ := h
  refine ⟨_, hh hm (pa_cons q (pa_cons (pe_bltn (v := .ty "bool") hg2 hm2 (by decide +kernel) rfl) pa_nil hs2) hs), fun z hz B F0 σ H vs ds Q s k => ?_⟩
  obtain ⟨y, hy, rfl⟩ := Option.map_eq_some_iff.mp hz
  refine h y hy B F0 σ H vs ds _ s fun v H1 s1 => ?_
  rw [s1.isBl]
  exact ⟨_, _, _, _, true, rfl, .ty "bool", .base (.bl y), isi_bool, k _ _ s1.pop.bl⟩
end
end Mir
namespace Mir
open PySem L2

/-! ### mirrors of what is written -/
noncomputable def appO {α : Type} (xs : List α) (a : α) : Option (List α) := @ite _ (xs.length < sizeLine) (Classical.propDecidable _) (some (xs ++ [a])) none
def setO {α : Type} (xs : List α) (i : Int) (a : α) : Option (List α) := (ixN xs.length i).map fun j => xs.set j a
def dget {κ ν : Type} [DecidableEq κ] (kvs : List (κ × ν)) (k : κ) : Option ν := (kvs.find? fun q => decide (q.1 = k)).map (·.2)
def dput {κ ν : Type} [DecidableEq κ] (kvs : List (κ × ν)) (k : κ) (v : ν) : List (κ × ν) :=
  if (kvs.any fun q => decide (q.1 = k)) = true then kvs.map (fun q => if q.1 = k then (q.1, v) else q) else kvs ++ [(k, v)]
noncomputable def dputO {κ ν : Type} [DecidableEq κ] (kvs : List (κ × ν)) (k : κ) (v : ν) : Option (List (κ × ν)) := @ite _ (kvs.length < sizeLine) (Classical.propDecidable _) (some (dput kvs k v)) none
abbrev odL {α : Type} (d : α → PyData) (xs : List α) : OD := .lst ((xs.map d).map .dat)
def encK {κ ν : Type} (dk : κ → PyData) (dv : ν → PyData) (q : κ × ν) : PyData × Sl := (dk q.1, .dat (dv q.2))
abbrev odK {κ ν : Type} (t : Bool) (dk : κ → PyData) (dv : ν → PyData) (kvs : List (κ × ν)) : OD := .dic t (kvs.map (encK dk dv))

/-! ### what is owned, by its place -/
theorem ow_split : ∀ {L : Ow} {j : Nat} {q : Addr × OD}, L[j]? = some q → ∀ q', L = L.take j ++ q :: L.drop (j + 1) ∧ L.set j q' = L.take j ++ q' :: L.drop (j + 1)
  | [], j, q, h, _ => by simp at h
  | a :: L, 0, q, h, q' => by
    have e : a = q := by simpa using h
    subst e
    exact ⟨rfl, rfl⟩
  | a :: L, j + 1, q, h, q' => by
    obtain ⟨e1, e2⟩ := ow_split (L := L) (j := j) (q := q) (by simpa using h) q'
    exact ⟨by rw [List.take_succ_cons, List.drop_succ_cons, List.cons_append, ← e1], by rw [List.set_cons_succ, List.take_succ_cons, List.drop_succ_cons, List.cons_append, ← e2]⟩
section
variable {K : PySem.W.Frag} {F F' F0 B H H' : Hp} {L : Ow} {ρ : Env} {σ : L2.St} {vs : List V} {ds : List Sl} {p : Addr} {o : HO} {j : Nat}
theorem Ok.at_ {d : OD} (k : Ok K B F0 F H L) (h : L[j]? = some (p, d)) : ORep K F H p d := (k.own _ (List.mem_of_getElem? h)).2.2
theorem Ok.put {d d' : OD} (k : Ok K B F0 F H L) (h : L[j]? = some (p, d)) (z : SzO o) (r : ORep K F (upd H p o) p d') : Ok K B F0 F (upd H p o) (L.set j (p, d')) := by
  obtain ⟨e1, e2⟩ := ow_split h (p, d')
  rw [e2]
  rw [e1] at k
  exact k.write z r
theorem mem_at {α : Type} {L : List α} {q : α} (h : L[j]? = some q) : q ∈ L := List.mem_of_getElem? h
end

/-! ### a list's methods and items -/
section
variable {X : Cx} {α β γ κ ν : Type} {a b e o i : Expr} {ρ : Env} {L : Ow} {pos cpos apos p2 : Pos} {d : α → PyData} {d' : β → PyData} {j k : Nat} {p : Addr}
/-- xs.append(e) -/
theorem s_append {xs : List α} {oe : Option α} (j : Nat) (hL : L[j]? = some (p, odL d xs)) (ho : ES X o ρ L (some (.ptr p))) (h : EX X d e ρ L oe) (hs : swapsWith (.Call (.Attribute o "append" apos) [e] [] cpos) none pos.line X.env = pure false := by rfl)
    (hh : ∀ {to te}, PE X o to → PE X e te → PE X (.Call (.Attribute o "append" apos) [e] [] cpos) (tBM X.K "list" rAppend to (tCons te tNil)) := by intro _ _ h1 h2; exact pe_bm PySem.F.plainAttrs_list PySem.F.slot_list_append PySem.F.type_list_append mt_append h1 (pa_cons h2 pa_nil)) :
    SX X (.Expr (.Call (.Attribute o "append" apos) [e] [] cpos) pos) ρ L (oe.bind fun a => appO xs a) (ocn fun ys => (ρ, L.set j (p, odL d ys))) := by
  obtain ⟨to, po, ho⟩ := ho
  obtain ⟨te, pe, h⟩ := h
  refine ⟨_, ps_expr (hh po pe) hs, fun ys hy B F0 σ H vs ds D s q => ?_⟩
  obtain ⟨a, ha, hy⟩ := Option.bind_eq_some_iff.mp hy
  unfold appO at hy
  split at hy
  · rename_i hl
    cases hy
    refine ho _ rfl B F0 σ H vs ds _ s fun v H1 s1 => ?_
    obtain ⟨us1, g1, _, _, _⟩ := s1.own1 (mem_at hL)
    have ev := s1.isPtr
    subst ev
    refine ⟨.inl ⟨rfl, _, SqL.of g1⟩, h a ha B F0 σ H1 _ _ _ s1 fun u H2 s2 => ?_⟩
    obtain ⟨F, ok, sl, sv⟩ := s2
    obtain ⟨us, g2, g3⟩ := ok.at_ hL
    have hlen : us.length = xs.length := by rw [Paired.length g3, List.length_map, List.length_map]
    cases sv with
    | cons r t =>
      cases t with
      | cons r2 t =>
        refine ⟨p, us, u, rfl, rfl, g2, by omega, q _ _ ⟨F, ok.put hL (d' := odL d (xs ++ [a])) (o := .lst (us ++ [u])) (by show (us ++ [u]).length ≤ sizeLine; rw [List.length_append]; show us.length + 1 ≤ sizeLine; omega) ⟨_, upd_same, ?_⟩, sl, t⟩⟩
        rw [List.map_append, List.map_append]
        exact pr_app g3 (.cons r .nil)
  · cases hy
/-- xs[i] = e -/
theorem s_setI {xs : List α} {oe : Option α} {oi : Option Int} {tpos : Pos} (j : Nat) (hL : L[j]? = some (p, odL d xs)) (ho : ES X o ρ L (some (.ptr p))) (hi : EX X dI i ρ L oi) (h : EX X d e ρ L oe)
    (hs : swapsWithSole [.Subscript o i tpos] e pos.line X.env = pure false := by rfl) (hw : swappedStores [.Subscript o i tpos] e X.env = pure none := by rfl) (h1 : (assignEach [.Subscript o i tpos] X.env).map (·.2) = [assign (.Subscript o i tpos) X.env] := by rfl)
    (hg : ∀ {to ti}, PE X o to → PE X i ti → PG X (.Subscript o i tpos) (gSub to ti rSetL) := by intro _ _ h1 h2; exact pg_sub h1 h2 set_list) :
    SX X (.Assign [.Subscript o i tpos] e pos) ρ L (oe.bind fun a => oi.bind fun n => setO xs n a) (ocn fun ys => (ρ, L.set j (p, odL d ys))) := by
  obtain ⟨to, po, ho⟩ := ho
  obtain ⟨ti, pi, hi⟩ := hi
  obtain ⟨te, pe, h⟩ := h
  refine ⟨_, ps_asg pe (hg po pi) hs hw h1, fun ys hy B F0 σ H vs ds D s q => ?_⟩
  obtain ⟨a, ha, hy⟩ := Option.bind_eq_some_iff.mp hy
  obtain ⟨n, hn, hy⟩ := Option.bind_eq_some_iff.mp hy
  obtain ⟨m, hm, rfl⟩ := Option.map_eq_some_iff.mp hy
  refine h a ha B F0 σ H vs ds _ s fun u H1 s1 => ho _ rfl B F0 σ H1 _ _ _ s1 fun v H2 s2 => hi n hn B F0 σ H2 _ _ _ s2 fun w H3 s3 => ?_
  have ew := s3.isInt
  have ev := s3.pop.isPtr
  obtain ⟨F, ok, sl, sv⟩ := s3.pop.pop
  obtain ⟨us, g2, g3⟩ := ok.at_ hL
  have hlen : us.length = xs.length := by rw [Paired.length g3, List.length_map, List.length_map]
  have hz := ok.sz _ _ g2
  cases sv with
  | cons r t =>
    refine ⟨p, us, n, m, ev, ew, g2, by rw [hlen]; exact hm, q _ _ ⟨F, ok.put hL (d' := odL d (xs.set m a)) (o := .lst (us.set m u)) (by show (us.set m u).length ≤ sizeLine; rw [List.length_set]; exact hz) ⟨_, upd_same, ?_⟩, sl, t⟩⟩
    rw [List.map_set, List.map_set]
    exact pr_set r m g3
/-- .. as a target -/
def g_setI_ : Unit := ()

/-! ### dicts -/
/-- keys: ints (or texts); tuples of them -/
structure Ky {κ Y : Type} (c : Y → PyData) (dk : κ → PyData) (f : κ → Y) : Prop where
  eq : ∀ k, dk k = c (f k)
  inj : ∀ a b, f a = f b → a = b
theorem kD_inj {a b : Key} (h : kD a = kD b) : a = b := by
  cases a with
  | inl i => cases b with
    | inl j => injection h with h; rw [h]
    | inr y => cases h
  | inr x => cases b with
    | inl j => cases h
    | inr y => injection h with h; rw [h]
theorem kTD_inj {a b : List Key} (h : kTD a = kTD b) : a = b := by
  have h' : a.map kD = b.map kD := by
    unfold kTD at h
    injection h
  clear h
  induction a generalizing b with
  | nil => cases b with
    | nil => rfl
    | cons y ys => simp at h'
  | cons x xs ih => cases b with
    | nil => simp at h'
    | cons y ys =>
      rw [List.map_cons, List.map_cons, List.cons.injEq] at h'
      rw [kD_inj h'.1, ih h'.2]
theorem ky_int : Ky kD dI (fun i : Int => .inl i) := ⟨fun _ => rfl, fun a b h => Sum.inl.inj h⟩
theorem ky_pair : Ky kTD (dP dI dI) (fun p : Int × Int => [Sum.inl p.1, Sum.inl p.2]) := ⟨fun _ => rfl, fun a b h => by
  simp only [List.cons.injEq, Sum.inl.injEq, and_true] at h
  exact Prod.ext h.1 h.2⟩
theorem ky_ints : Ky kTD (dT dI) (fun xs : List Int => xs.map Sum.inl) := ⟨fun xs => by unfold dT kTD; rw [List.map_map]; rfl, fun a b h => by
  induction a generalizing b with
  | nil => cases b with
    | nil => rfl
    | cons y ys => simp at h
  | cons x xs ih => cases b with
    | nil => simp at h
    | cons y ys =>
      rw [List.map_cons, List.map_cons, List.cons.injEq] at h
      rw [Sum.inl.inj h.1, ih _ h.2]⟩
theorem ky_3 : Ky kTD (dP3 dI dI dI) (fun p : Int × Int × Int => [Sum.inl p.1, Sum.inl p.2.1, Sum.inl p.2.2]) := ⟨fun _ => rfl, fun a b h => by
  simp only [List.cons.injEq, Sum.inl.injEq, and_true] at h
  exact Prod.ext h.1 (Prod.ext h.2.1 h.2.2)⟩
section
variable {K : PySem.W.Frag} {F H : Hp} {Y : Type} [DecidableEq Y] [DecidableEq κ] {c : Y → PyData} {dk : κ → PyData} {dv : ν → PyData} {f : κ → Y}
def DR (K : PySem.W.Frag) (c : Y → PyData) (F : Hp) : List (Y × V) → List (PyData × Sl) → Prop := Paired fun p q => q.1 = c p.1 ∧ SvR K F p.2 q.2
theorem dr_key (hc : ∀ a b, c a = c b → a = b) (ky : Ky c dk f) {y : Y} {k : κ} (h : dk k = c y) : y = f k := hc _ _ (h.symm.trans (ky.eq k))
theorem dr_get (hc : ∀ a b, c a = c b → a = b) (ky : Ky c dk f) (k : κ) : ∀ {ws : List (Y × V)} {kvs : List (κ × ν)}, DR K c F ws (kvs.map (encK dk dv)) →
    (∀ x, dget kvs k = some x → ∃ v, valV ws (f k) = some v ∧ SvR K F v (.dat (dv x))) ∧ (dget kvs k = none → valV ws (f k) = none)
  | ws, [], h => by
    cases h
    exact ⟨fun x e => (by simp [dget] at e), fun _ => rfl⟩
  | ws, q :: kvs, h => by
    cases h with
    | @cons w _ ws' _ r t =>
      obtain ⟨i1, i2⟩ := dr_get hc ky k t
      have hy : w.1 = f q.1 := dr_key hc ky r.1
      by_cases e : q.1 = k
      · have e2 : w.1 = f k := by rw [hy, e]
        refine ⟨fun x h => ⟨w.2, valV_pos e2, ?_⟩, fun h => ?_⟩
        · have h' : q.2 = x := by simpa [dget, List.find?_cons, e] using h
          rw [← h']
          exact r.2
        · simp [dget, List.find?_cons, e] at h
      · have e2 : ¬ w.1 = f k := fun z => e (ky.inj _ _ (hy.symm.trans z))
        have hd : dget (q :: kvs) k = dget kvs k := by simp [dget, List.find?_cons, e]
        rw [hd, valV_neg e2]
        exact ⟨i1, i2⟩
theorem dr_any (hc : ∀ a b, c a = c b → a = b) (ky : Ky c dk f) (k : κ) : ∀ {ws : List (Y × V)} {kvs : List (κ × ν)}, DR K c F ws (kvs.map (encK dk dv)) →
    (ws.any fun q => decide (q.1 = f k)) = (kvs.any fun q => decide (q.1 = k))
  | ws, [], h => by cases h; rfl
  | ws, q :: kvs, h => by
    cases h with
    | @cons w _ ws' _ r t =>
      have hy : w.1 = f q.1 := dr_key hc ky r.1
      rw [List.any_cons, List.any_cons, dr_any hc ky k t]
      congr 1
      by_cases e : q.1 = k
      · rw [decide_eq_true e, decide_eq_true (by rw [hy, e])]
      · rw [decide_eq_false e, decide_eq_false fun z => e (ky.inj _ _ (hy.symm.trans z))]
theorem dr_map (hc : ∀ a b, c a = c b → a = b) (ky : Ky c dk f) (k : κ) {x : ν} {v : V} (rv : SvR K F v (.dat (dv x))) : ∀ {ws : List (Y × V)} {kvs : List (κ × ν)}, DR K c F ws (kvs.map (encK dk dv)) →
    DR K c F (ws.map fun q => if q.1 = f k then (q.1, v) else q) ((kvs.map fun q => if q.1 = k then (q.1, x) else q).map (encK dk dv))
  | ws, [], h => by cases h; exact .nil
  | ws, q :: kvs, h => by
    cases h with
    | @cons w _ ws' _ r t =>
      have hy : w.1 = f q.1 := dr_key hc ky r.1
      refine .cons ?_ (dr_map hc ky k rv t)
      dsimp only
      by_cases e : q.1 = k
      · rw [if_pos e, if_pos (show w.1 = f k by rw [hy, e])]
        exact ⟨r.1, rv⟩
      · rw [if_neg e, if_neg (show ¬ w.1 = f k from fun z => e (ky.inj _ _ (hy.symm.trans z)))]
        exact r
theorem dr_put (hc : ∀ a b, c a = c b → a = b) (ky : Ky c dk f) (k : κ) {x : ν} {v : V} (rv : SvR K F v (.dat (dv x))) {ws : List (Y × V)} {kvs : List (κ × ν)} (h : DR K c F ws (kvs.map (encK dk dv))) : DR K c F (putK ws (f k) v) ((dput kvs k x).map (encK dk dv)) := by
  unfold putK dput
  rw [dr_any hc ky k h]
  split
  · exact dr_map hc ky k rv h
  · rw [List.map_append]
    exact pr_app h (.cons ⟨ky.eq k, rv⟩ .nil)
theorem dput_length (kvs : List (κ × ν)) (k : κ) (v : ν) : (dput kvs k v).length ≤ kvs.length + 1 := by
  unfold dput
  split
  · rw [List.length_map]; omega
  · rw [List.length_append]; exact Nat.le_refl _
end
/-- a key on the stack -/
theorem rp_kD {F : Hp} {v : V} {y : Key} (h : Rp F v (kD y)) : v = kV y := by
  cases y with
  | inl i => cases (show Rp F v (.int i) from h); rfl
  | inr x => cases (show Rp F v (.str x) from h); rfl
theorem rps_kD {F : Hp} : ∀ {ys : List Key} {us : List V}, Rps F us (ys.map kD) → us = ys.map kV
  | [], _, h => by cases h; rfl
  | y :: ys, _, h => by
    cases h with
    | cons r t => rw [rp_kD r, rps_kD t]; rfl
theorem rp_kTD {F : Hp} {v : V} {ys : List Key} (h : Rp F v (kTD ys)) : ∃ q, v = .ref q ∧ F q = some (.tup (ys.map kV)) := by
  cases (show Rp F v (.tuple (ys.map kD)) from h) with
  | tup h1 h2 => exact ⟨_, rfl, by rw [← rps_kD h2]; exact h1⟩
/-- which of both kinds: t tells -/
inductive KyB {κ : Type} (dk : κ → PyData) : Bool → Prop
  | k {f : κ → Key} : Ky kD dk f → KyB dk false
  | t {f : κ → List Key} : Ky kTD dk f → KyB dk true
theorem od_get [DecidableEq κ] {t : Bool} {dk : κ → PyData} {dv : ν → PyData} {K : PySem.W.Frag} {F H : Hp} {p : Addr} {kvs : List (κ × ν)} {k : κ} {y : V} (kb : KyB dk t) (h : ORep K F H p (odK t dk dv kvs)) (le : Same F H) (r : Rp F y (dk k)) :
    (∀ x, dget kvs k = some x → ∃ v, DGet H p y (some v) ∧ SvR K F v (.dat (dv x))) ∧ (dget kvs k = none → DGet H p y none) := by
  cases kb with
  | @k f ky =>
    obtain ⟨ws, h1, h2⟩ := h
    obtain ⟨g1, g2⟩ := dr_get (c := kD) (fun _ _ => kD_inj) ky k h2
    rw [ky.eq] at r
    have ey := rp_kD r
    subst ey
    refine ⟨fun x hx => ?_, fun hn => ?_⟩
    · obtain ⟨v, e, rv⟩ := g1 x hx
      exact ⟨v, by rw [← e]; exact DGet.k h1, rv⟩
    · rw [← g2 hn]; exact DGet.k h1
  | @t f ky =>
    obtain ⟨ws, h1, h2⟩ := h
    obtain ⟨g1, g2⟩ := dr_get (c := kTD) (fun _ _ => kTD_inj) ky k h2
    rw [ky.eq] at r
    obtain ⟨q, rfl, hq⟩ := rp_kTD r
    refine ⟨fun x hx => ?_, fun hn => ?_⟩
    · obtain ⟨v, e, rv⟩ := g1 x hx
      exact ⟨v, by rw [← e]; exact DGet.t h1 (le _ _ hq), rv⟩
    · rw [← g2 hn]; exact DGet.t h1 (le _ _ hq)
theorem od_put [DecidableEq κ] {t : Bool} {dk : κ → PyData} {dv : ν → PyData} {K : PySem.W.Frag} {F H : Hp} {p : Addr} {kvs : List (κ × ν)} {k : κ} {x : ν} {y v : V} (kb : KyB dk t) (h : ORep K F H p (odK t dk dv kvs)) (le : Same F H) (r : Rp F y (dk k)) (rv : SvR K F v (.dat (dv x))) (hl : kvs.length < sizeLine) :
    ∃ o, DPut H p y v (upd H p o) ∧ SzO o ∧ ORep K F (upd H p o) p (odK t dk dv (dput kvs k x)) := by
  have hd := dput_length kvs k x
  cases kb with
  | @k f ky =>
    obtain ⟨ws, h1, h2⟩ := h
    rw [ky.eq] at r
    have ey := rp_kD r
    subst ey
    have hw : ws.length = kvs.length := by have := Paired.length h2; rw [List.length_map] at this; exact this
    have h3 := dr_put (c := kD) (fun _ _ => kD_inj) ky k rv h2
    have hw2 := Paired.length h3
    rw [List.length_map] at hw2
    exact ⟨_, DPut.k h1 (by omega), by show (putK ws (f k) v).length ≤ sizeLine; omega, _, upd_same, h3⟩
  | @t f ky =>
    obtain ⟨ws, h1, h2⟩ := h
    rw [ky.eq] at r
    obtain ⟨q, rfl, hq⟩ := rp_kTD r
    have hw : ws.length = kvs.length := by have := Paired.length h2; rw [List.length_map] at this; exact this
    have h3 := dr_put (c := kTD) (fun _ _ => kTD_inj) ky k rv h2
    have hw2 := Paired.length h3
    rw [List.length_map] at hw2
    exact ⟨_, DPut.t h1 (le _ _ hq) (by omega), by show (putK ws (f k) v).length ≤ sizeLine; omega, _, upd_same, h3⟩
/-- {} -/
theorem e_dictK (dk : κ → PyData) (dv : ν → PyData) : EO X (odK false dk dv) (.Dict [] [] pos) ρ L (some []) :=
  ⟨_, pe_dnewK, fun a ha B F0 σ H vs ds Q s k => by
    cases ha
    intro p hp
    obtain ⟨F, ok, sl, sv⟩ := s
    exact k p _ ⟨F, ok.alloc (o := .dK []) hp (Nat.zero_le _) ⟨[], upd_same, .nil⟩, sl, .cons rfl sv⟩⟩
theorem e_dictT (dk : κ → PyData) (dv : ν → PyData) : EO X (odK true dk dv) (.Dict [] [] pos) ρ L (some []) :=
  ⟨_, pe_dnewT, fun a ha B F0 σ H vs ds Q s k => by
    cases ha
    intro p hp
    obtain ⟨F, ok, sl, sv⟩ := s
    exact k p _ ⟨F, ok.alloc (o := .dT []) hp (Nat.zero_le _) ⟨[], upd_same, .nil⟩, sl, .cons rfl sv⟩⟩
variable [DecidableEq κ] {t : Bool} {dk : κ → PyData} {dv : ν → PyData} {kvs : List (κ × ν)} {n : Nat}
/-- d[k] -/
theorem x_dget {ok : Option κ} (j : Nat) (kb : KyB dk t) (hr : Room n X.A) (hL : L[j]? = some (p, odK t dk dv kvs)) (ho : ES X o ρ L (some (.ptr p))) (hi : EX X dk i ρ L ok) (hs : NoSl i := by intro _ _; rfl) : EX X dv (.Subscript o i pos) ρ L (ok.bind fun k => dget kvs k) := by
  obtain ⟨to, po, ho⟩ := ho
  obtain ⟨ti, pi, hi⟩ := hi
  refine ⟨_, pe_dget (hu_of hr) po pi hs, fun z hz B F0 σ H vs ds Q s q => ?_⟩
  obtain ⟨y, hy, hz⟩ := Option.bind_eq_some_iff.mp hz
  refine ho _ rfl B F0 σ H vs ds _ s fun v H1 s1 => hi y hy B F0 σ H1 _ _ _ s1 fun u H2 s2 => ?_
  obtain ⟨F, ok, sl, sv⟩ := s2
  cases sv with
  | cons r t =>
    cases t with
    | cons r2 t =>
      obtain ⟨w, g, rw'⟩ := (od_get kb (ok.at_ hL) ok.le r).1 z hz
      exact ⟨p, w, r2, g, q w H2 ⟨F, ok, sl, .cons rw' t⟩⟩
/-- k in d, k not in d -/
theorem din_core (kb : KyB dk t) (hL : L[j]? = some (p, odK t dk dv kvs)) {B F0 : Hp} {σ : L2.St} {H : Hp} {u v : V} {y : κ} {vs : List V} {ds : List Sl} (s : St X.K B F0 ρ L σ H (v :: u :: vs) (.ptr p :: .dat (dk y) :: ds)) : v = .ref p ∧ ∃ o, DGet H p u o ∧ o.isSome = (dget kvs y).isSome := by
  obtain ⟨F, ok, sl, sv⟩ := s
  cases sv with
  | cons r2 t =>
    cases t with
    | cons r t =>
      obtain ⟨g1, g2⟩ := od_get kb (ok.at_ hL) ok.le r
      refine ⟨r2, ?_⟩
      cases e : dget kvs y with
      | none => exact ⟨none, g2 e, rfl⟩
      | some x =>
        obtain ⟨w, g, _⟩ := g1 x e
        exact ⟨some w, g, rfl⟩
theorem x_din {ok : Option κ} (j : Nat) (kb : KyB dk t) (hr : Room n X.A) (hL : L[j]? = some (p, odK t dk dv kvs)) (hi : EX X dk i ρ L ok) (ho : ES X o ρ L (some (.ptr p))) (hm : behindInMarks .In o = false := by rfl) : EX X dB (.Compare i [.In] [o] pos) ρ L (ok.map fun k => (dget kvs k).isSome) := by
  obtain ⟨to, po, ho⟩ := ho
  obtain ⟨ti, pi, hi⟩ := hi
  refine ⟨_, pe_cmp (pc_din (hu_of hr) pi po) hm, fun z hz B F0 σ H vs ds Q s q => ?_⟩
  obtain ⟨y, hy, rfl⟩ := Option.map_eq_some_iff.mp hz
  refine hi y hy B F0 σ H vs ds _ s fun u H1 s1 => ho _ rfl B F0 σ H1 _ _ _ s1 fun v H2 s2 => ?_
  obtain ⟨e, o, g, eo⟩ := din_core kb hL s2
  exact ⟨p, o, e, g, by rw [eo]; exact q _ _ s2.pop.pop.bl⟩
theorem x_dnotIn {ok : Option κ} (j : Nat) (kb : KyB dk t) (hr : Room n X.A) (hL : L[j]? = some (p, odK t dk dv kvs)) (hi : EX X dk i ρ L ok) (ho : ES X o ρ L (some (.ptr p))) (hm : behindInMarks .NotIn o = false := by rfl) : EX X dB (.Compare i [.NotIn] [o] pos) ρ L (ok.map fun k => !(dget kvs k).isSome) := by
  obtain ⟨to, po, ho⟩ := ho
  obtain ⟨ti, pi, hi⟩ := hi
  refine ⟨_, pe_cmp (pc_dnotin (hu_of hr) pi po) hm, fun z hz B F0 σ H vs ds Q s q => ?_⟩
  obtain ⟨y, hy, rfl⟩ := Option.map_eq_some_iff.mp hz
  refine hi y hy B F0 σ H vs ds _ s fun u H1 s1 => ho _ rfl B F0 σ H1 _ _ _ s1 fun v H2 s2 => ?_
  obtain ⟨e, o, g, eo⟩ := din_core kb hL s2
  exact ⟨p, o, e, g, by rw [eo]; exact q _ _ s2.pop.pop.bl⟩
theorem t_din {ok : Option κ} (j : Nat) (kb : KyB dk t) (hr : Room n X.A) (hL : L[j]? = some (p, odK t dk dv kvs)) (hi : EX X dk i ρ L ok) (ho : ES X o ρ L (some (.ptr p))) (hm : behindInMarks .In o = false := by rfl) : TX X (.Compare i [.In] [o] pos) ρ L (ok.map fun k => (dget kvs k).isSome) := by
  obtain ⟨to, po, ho⟩ := ho
  obtain ⟨ti, pi, hi⟩ := hi
  refine ⟨_, pt_cmp (pc_din (hu_of hr) pi po) hm, fun z hz B F0 σ H vs ds Q s q => ?_⟩
  obtain ⟨y, hy, rfl⟩ := Option.map_eq_some_iff.mp hz
  refine hi y hy B F0 σ H vs ds _ s fun u H1 s1 => ho _ rfl B F0 σ H1 _ _ _ s1 fun v H2 s2 => ?_
  obtain ⟨e, o, g, eo⟩ := din_core kb hL s2
  exact ⟨p, o, e, g, _, rfl, by rw [eo]; exact q _ s2.pop.pop⟩
theorem t_dnotIn {ok : Option κ} (j : Nat) (kb : KyB dk t) (hr : Room n X.A) (hL : L[j]? = some (p, odK t dk dv kvs)) (hi : EX X dk i ρ L ok) (ho : ES X o ρ L (some (.ptr p))) (hm : behindInMarks .NotIn o = false := by rfl) : TX X (.Compare i [.NotIn] [o] pos) ρ L (ok.map fun k => !(dget kvs k).isSome) := by
  obtain ⟨to, po, ho⟩ := ho
  obtain ⟨ti, pi, hi⟩ := hi
  refine ⟨_, pt_cmp (pc_dnotin (hu_of hr) pi po) hm, fun z hz B F0 σ H vs ds Q s q => ?_⟩
  obtain ⟨y, hy, rfl⟩ := Option.map_eq_some_iff.mp hz
  refine hi y hy B F0 σ H vs ds _ s fun u H1 s1 => ho _ rfl B F0 σ H1 _ _ _ s1 fun v H2 s2 => ?_
  obtain ⟨e, o, g, eo⟩ := din_core kb hL s2
  exact ⟨p, o, e, g, _, rfl, by rw [eo]; exact q _ s2.pop.pop⟩
/-- d[k] = e -/
theorem s_dput {ok : Option κ} {oe : Option ν} {tpos : Pos} (j : Nat) (kb : KyB dk t) (hr : Room n X.A) (hL : L[j]? = some (p, odK t dk dv kvs)) (ho : ES X o ρ L (some (.ptr p))) (hi : EX X dk i ρ L ok) (h : EX X dv e ρ L oe) (hs : swapsWith e (some (.Subscript o i tpos)) pos.line X.env = pure false := by rfl) :
    SX X (.Assign [.Subscript o i tpos] e pos) ρ L (oe.bind fun x => ok.bind fun k => dputO kvs k x) (ocn fun kvs => (ρ, L.set j (p, odK t dk dv kvs))) := by
  obtain ⟨to, po, ho⟩ := ho
  obtain ⟨ti, pi, hi⟩ := hi
  obtain ⟨te, pe, h⟩ := h
  refine ⟨_, ps_dput (hu_of hr) po pi pe hs, fun z hz B F0 σ H vs ds D s q => ?_⟩
  obtain ⟨x, hx, hz⟩ := Option.bind_eq_some_iff.mp hz
  obtain ⟨y, hy, hz⟩ := Option.bind_eq_some_iff.mp hz
  unfold dputO at hz
  split at hz
  · rename_i hl
    cases hz
    refine h x hx B F0 σ H vs ds _ s fun w H1 s1 => ho _ rfl B F0 σ H1 _ _ _ s1 fun v H2 s2 => hi y hy B F0 σ H2 _ _ _ s2 fun u H3 s3 => ?_
    obtain ⟨F, ok, sl, sv⟩ := s3
    cases sv with
    | cons r t =>
      cases t with
      | cons r2 t =>
        cases t with
        | cons r3 t =>
          obtain ⟨o', g1, g2, g3⟩ := od_put kb (ok.at_ hL) ok.le r r3 hl
          exact ⟨p, _, r2, g1, q _ _ ⟨F, ok.put hL g2 g3, sl, t⟩⟩
  · cases hz
/-- .. in a world that turns -/
theorem s_dputM {W : Type} {Lf : W → Ow} {w0 : W} {kvf : W → List (κ × ν)} {mk : ν → W → Option (κ × W)} {me : Option (ν × W)} {tpos : Pos} (j : Nat) (kb : KyB dk t) (hr : Room n X.A) (hL : ∀ w, (Lf w)[j]? = some (p, odK t dk dv (kvf w))) (ho : ∀ w, ES X o ρ (Lf w) (some (.ptr p))) (hi : ∀ x w, EM X dk i ρ Lf w (mk x w)) (h : EM X dv e ρ Lf w0 me)
    (hs : swapsWith e (some (.Subscript o i tpos)) pos.line X.env = pure false := by rfl) :
    SX X (.Assign [.Subscript o i tpos] e pos) ρ (Lf w0) (me.bind fun x => (mk x.1 x.2).bind fun k => (dputO (kvf k.2) k.1 x.1).map fun q => (q, k.2)) (ocn fun q => (ρ, (Lf q.2).set j (p, odK t dk dv q.1))) := by
  obtain ⟨to, po, ho⟩ : ∃ to, PE X o to ∧ ∀ w, ∀ B F0 σ H vs ds Q, St X.K B F0 ρ (Lf w) σ H vs ds → (∀ v H', St X.K B F0 ρ (Lf w) σ H' (v :: vs) (.ptr p :: ds) → Q v H') → to σ H Q := by
    refine ⟨fun σ H Q => ∃ w B F0 vs ds, St X.K B F0 ρ (Lf w) σ H vs ds ∧ ∀ v H', St X.K B F0 ρ (Lf w) σ H' (v :: vs) (.ptr p :: ds) → Q v H', ⟨fun pins s σ H Q I h => ?_⟩, fun w B F0 σ H vs ds Q s k => ⟨w, B, F0, vs, ds, s, k⟩⟩
    obtain ⟨w, B, F0, vs, ds, st, k⟩ := h
    obtain ⟨tb, pb, hb⟩ := ho w
    exact pb.run pins s σ H Q I (hb _ rfl B F0 σ H vs ds Q st k)
  obtain ⟨ti, pi, hi⟩ : ∃ tb, PE X i tb ∧ ∀ x w1, ∀ a w', mk x w1 = some (a, w') → ∀ B F0 σ H vs ds Q, St X.K B F0 ρ (Lf w1) σ H vs ds → (∀ v H', St X.K B F0 ρ (Lf w') σ H' (v :: vs) (.dat (dk a) :: ds) → Q v H') → tb σ H Q := by
    refine ⟨fun σ H Q => ∃ x w1 a w' B F0 vs ds, mk x w1 = some (a, w') ∧ St X.K B F0 ρ (Lf w1) σ H vs ds ∧ ∀ v H', St X.K B F0 ρ (Lf w') σ H' (v :: vs) (.dat (dk a) :: ds) → Q v H', ⟨fun pins s σ H Q I h => ?_⟩, fun x w1 a w' e B F0 σ H vs ds Q s k => ⟨x, w1, a, w', B, F0, vs, ds, e, s, k⟩⟩
    obtain ⟨x, w1, a, w', B, F0, vs, ds, e, st, k⟩ := h
    obtain ⟨tb, pb, hb⟩ := hi x w1
    exact pb.run pins s σ H Q I (hb a w' e B F0 σ H vs ds Q st k)
  obtain ⟨te, pe, h⟩ := h
  refine ⟨_, ps_dput (hu_of hr) po pi pe hs, fun z hz B F0 σ H vs ds D s q => ?_⟩
  obtain ⟨⟨x, w1⟩, hx, hz⟩ := Option.bind_eq_some_iff.mp hz
  obtain ⟨⟨y, w2⟩, hy, hz⟩ := Option.bind_eq_some_iff.mp hz
  obtain ⟨kv', hz, rfl⟩ := Option.map_eq_some_iff.mp hz
  unfold dputO at hz
  split at hz
  · rename_i hl
    cases hz
    refine h x w1 hx B F0 σ H vs ds _ s fun w H1 s1 => ho w1 B F0 σ H1 _ _ _ s1 fun v H2 s2 => hi x w1 y w2 hy B F0 σ H2 _ _ _ s2 fun u H3 s3 => ?_
    obtain ⟨F, ok, sl, sv⟩ := s3
    cases sv with
    | cons r t =>
      cases t with
      | cons r2 t =>
        cases t with
        | cons r3 t =>
          obtain ⟨o', g1, g2, g3⟩ := od_put kb (ok.at_ (hL w2)) ok.le r r3 hl
          exact ⟨p, _, r2, g1, q _ _ ⟨F, ok.put (hL w2) g2 g3, sl, t⟩⟩
  · cases hz
end
end Mir
namespace Mir
open PySem L2

/-! ### displays of one kind -/
section
variable {X : Cx} {α β γ W : Type} {e a b c : Expr} {es : List Expr} {ρ : Env} {L : Ow} {pos : Pos} {d : α → PyData} {oa ob : Option α}
def AH (X : Cx) {α : Type} (d : α → PyData) (es : List Expr) (ρ : Env) (L : Ow) (o : Option (List α)) : Prop := AX X (encH d) es ρ L o ∧ ∀ xs, o = some xs → xs.length = es.length
theorem h_nil : AH X d [] ρ L (some []) := ⟨ah_nil, fun xs h => by cases h; rfl⟩
theorem h_cons {os : Option (List α)} (ha : EX X d e ρ L oa) (hr : AH X d es ρ L os) (hs : starEach (e :: es) X.env = (false, eval e X.env) :: starEach es X.env := by rfl) :
    AH X d (e :: es) ρ L (oa.bind fun x => os.bind fun y => some (x :: y)) := ⟨ah_cons ha hr.1 hs, fun xs h => by
  obtain ⟨x, hx, h⟩ := Option.bind_eq_some_iff.mp h
  obtain ⟨y, hy, h⟩ := Option.bind_eq_some_iff.mp h
  cases h
  rw [List.length_cons, List.length_cons, hr.2 y hy]⟩
theorem x_th {k} {os : Option (List α)} (h : AH X d es ρ L os) (hz : es.length ≤ 1000 := by exact Nat.le_of_ble_eq_true rfl) : EX X (dT d) (.Tuple es k pos) ρ L os := x_tupH h.1 fun xs e => by rw [h.2 xs e]; exact hz
theorem n_lh {os : Option (List α)} (h : AH X d es ρ L os) (hz : es.length ≤ 1000 := by exact Nat.le_of_ble_eq_true rfl) : EN X d (.List es pos) ρ L os := n_lst h.1 fun xs e => by rw [h.2 xs e]; exact hz
/-- return e, the block's outcome its value -/
theorem b_retr {o : Option α} {rd : Rd α} {L1 L2 : Ow} (h : EX X d e ρ L o) (hrd : ∀ a, rd a = (.dat (d a), L1) := by intro _; rfl) (hL : L = L1 ++ L2 := by rfl) : BX X [.Return (some e) pos] ρ L o (ocr rd) := by
  obtain ⟨t, p, h⟩ := h
  refine ⟨_, pss_one (ps_ret p), fun a ha B F0 σ H vs ds D s q => ?_⟩
  have q' : Good X.K B F0 vs ds D (.rt (rd a).1 (rd a).2) := q
  rw [hrd] at q'
  subst hL
  exact h a ha B F0 σ H vs ds _ s fun v H' s' => q' v H' s'.part.noslots
theorem b_retM {W : Type} {Lf : W → Ow} {w : W} {Lr : Ow} {o : Option (α × W)} {rd : Rd (α × W)} (h : EM X d e ρ (fun w => Lf w ++ Lr) w o) (hrd : ∀ a, rd a = (.dat (d a.1), Lf a.2) := by intro _; rfl) : BX X [.Return (some e) pos] ρ (Lf w ++ Lr) o (ocr rd) := by
  obtain ⟨t, p, h⟩ := h
  refine ⟨_, pss_one (ps_ret p), fun a ha B F0 σ H vs ds D s q => ?_⟩
  have q' : Good X.K B F0 vs ds D (.rt (rd a).1 (rd a).2) := q
  rw [hrd] at q'
  exact h a.1 a.2 ha B F0 σ H vs ds _ s fun v H' s' => q' v H' (St.part (L1 := Lf a.2) s').noslots
end

/-! ### a def's promise by its mirror -/
def startE (N : List Str) (ss : List Sl) : Env := ss.map some ++ List.replicate (N.length - ss.length) none
section
variable {P : Program} {w : World} {K : PySem.W.Frag} {mg : Str → Option Value} {base : Heap}
theorem start_pr {F : Hp} {N : List Str} {vs : List V} {ss : List Sl} (h : Paired (SvR K F) vs ss) : Paired (SlR K F) (L2.start N vs) (startE N ss) := by
  unfold L2.start startE
  have e := Paired.length h
  rw [e]
  refine pr_app ?_ ?_
  · clear e
    induction h with
    | nil => exact .nil
    | cons r t ih => exact .cons r ih
  · induction (N.length - ss.length) with
    | zero => exact .nil
    | succ n ih => exact .cons trivial ih
theorem knows_fn {α β : Type} {x qual : Str} {st : Stmt} {f : Addr} {fd : FuncData} {N ps : List Str} {k : Nat} {enc : α → List Sl} {dR : β → PyData} {m : α → Option β} (F : Fun K x qual st f fd) (hm : mg x = some (.ref f)) (hb : Binds K fd ps []) (S : FnScope N ps (defScope st)) (hl : ∀ a, (enc a).length = ps.length)
    (body : ∀ (cdv : Value) (A : Around) (outer : List PySem.Env) (s : Shared) (H : Hp) (E : XK), Room k (A.deeper (PyProof.Rows.envOfC qual (defScope st) s.heap.objs.size f cdv)) → ∀ a, BX (cxOf CX0 P w K mg base N qual (defScope st) f cdv A outer s H E).nox (defBody st) (startE N (enc a)) [] (m a) (ocr fun r => (.dat (dR r), []))) :
    Knows P w K mg base x (k + 1) ps (spP K enc dR m) := by
  refine ⟨f, fd, F.ok S (fun vs H Q E h => ?_) (fun cdv A outer s H vs Q E hr h => ?_), hm, F.kp, hb⟩
  · obtain ⟨a, r, F', _, _, hv, _⟩ := h
    rw [Paired.length hv]
    exact hl a
  · obtain ⟨a, r, F', hm, ok, hv, q⟩ := h
    obtain ⟨t, p, hb⟩ := body cdv A outer s H E hr a
    refine ⟨t, p, hb r hm H F' _ H [] [] _ ⟨F', ok, start_pr hv, .nil⟩ ?_⟩
    rintro v H' ⟨F2, ok2, _, sv⟩
    cases sv with
    | cons r2 t2 => exact q v F2 H' ok2 r2
theorem knows_fnW {α β W : Type} {x qual : Str} {st : Stmt} {f : Addr} {fd : FuncData} {N ps : List Str} {k : Nat} {I : Type} {enc : I → α → List Sl} {dR : β → PyData} {Lf : I → W → Ow} {m : α → W → Option (β × W)} (F : Fun K x qual st f fd) (hm : mg x = some (.ref f)) (hb : Binds K fd ps []) (S : FnScope N ps (defScope st)) (hl : ∀ i a, (enc i a).length = ps.length)
    (body : ∀ (cdv : Value) (A : Around) (outer : List PySem.Env) (s : Shared) (H : Hp) (E : XK), Room k (A.deeper (PyProof.Rows.envOfC qual (defScope st) s.heap.objs.size f cdv)) → ∀ i a w', BX (cxOf CX0 P w K mg base N qual (defScope st) f cdv A outer s H E).nox (defBody st) (startE N (enc i a)) (Lf i w') (m a w') (ocr fun r => (.dat (dR r.1), Lf i r.2))) :
    Knows P w K mg base x (k + 1) ps (fun vs H Q E => ∃ i, spG K (enc i) dR (Lf i) m vs H Q E) := by
  refine ⟨f, fd, F.ok S (fun vs H Q E h => ?_) (fun cdv A outer s H vs Q E hr h => ?_), hm, F.kp, hb⟩
  · obtain ⟨i, a, _, r, _, _, F', _, _, hv, _⟩ := h
    rw [Paired.length hv]
    exact hl i a
  · obtain ⟨i, a, w1, r, w2, B, F', hm, ok, hv, q⟩ := h
    obtain ⟨t, p, hb⟩ := body cdv A outer s H E hr i a w1
    refine ⟨t, p, hb (r, w2) hm B F' _ H [] [] _ ⟨F', ok, start_pr hv, .nil⟩ ?_⟩
    rintro v H' ⟨F2, ok2, _, sv⟩
    cases sv with
    | cons r2 t2 => exact q v F2 H' ok2 r2
theorem Knows.imp {x : Str} {k : Nat} {ps : List Str} {sp sp' : Sp} (h : Knows P w K mg base x k ps sp) (e : ∀ vs H Q E, sp' vs H Q E → sp vs H Q E) : Knows P w K mg base x k ps sp' :=
  let ⟨f, fd, a, b, c, d⟩ := h; ⟨f, fd, a.imp e, b, c, d⟩
theorem Knows.at_ {α β W I : Type} {enc : I → α → List Sl} {dR : β → PyData} {Lf : I → W → Ow} {m : α → W → Option (β × W)} {x : Str} {k : Nat} {ps : List Str} (h : Knows P w K mg base x k ps (fun vs H Q E => ∃ i, spG K (enc i) dR (Lf i) m vs H Q E)) (i : I) : Knows P w K mg base x k ps (spG K (enc i) dR (Lf i) m) :=
  h.imp fun _ _ _ _ q => ⟨i, q⟩
end

/-! ### assignments to several names at once -/
section
variable {X : Cx} {α β γ S : Type} {a b c e : Expr} {ρ ρ' : Env} {L : Ow} {pos px py pz pt pt2 : Pos} {kt k2 : Nat} {d : α → PyData} {d' : β → PyData} {f : γ → PyData} {oa : Option α} {ob : Option β} {oc' : Option γ} {x y z : Str} {rest : List Stmt} {δ : Type} {oc : δ → Oc}
/-- x, y = a, b -/
theorem s_par (i j : Nat) (hc : X.calm = true) (hN : X.N.Nodup) (ha : EX X d a ρ L oa) (hb : EX X d' b ρ L ob) (hij : i ≠ j := by decide) (hi : X.N[i]? = some x := by rfl) (hj : X.N[j]? = some y := by rfl)
    (hx : X.env.scope.names.lookup x = some .local := by rfl) (hy : X.env.scope.names.lookup y = some .local := by rfl) (h1 : starEach [a, b] X.env = (false, eval a X.env) :: starEach [b] X.env := by rfl) (h2 : starEach [b] X.env = (false, eval b X.env) :: starEach [] X.env := by rfl)
    (hw : swappedStores [.Tuple [.Name x px, .Name y py] kt pt] (.Tuple [a, b] k2 pt2) X.env = pure (some [x, y]) := by rfl)
    (hs : swapsWithSole [.Tuple [.Name x px, .Name y py] kt pt] (.Tuple [a, b] k2 pt2) pos.line X.env = pure false := by rfl) :
    SX X (.Assign [.Tuple [.Name x px, .Name y py] kt pt] (.Tuple [a, b] k2 pt2) pos) ρ L (oa.bind fun u => ob.bind fun v => some (u, v)) (ocn fun q => ((ρ.set i (some (.dat (d q.1)))).set j (some (.dat (d' q.2))), L)) := by
  obtain ⟨ta, pa, ha⟩ := ha
  obtain ⟨tb, pb, hb⟩ := hb
  refine ⟨_, ps_par hc hN hi hj hij hx hy (pa_cons pa (pa_cons pb pa_nil h2) h1) hw hs, fun q hq B F0 σ H vs ds D s g => ?_⟩
  obtain ⟨u, hu, hq⟩ := Option.bind_eq_some_iff.mp hq
  obtain ⟨v, hv, hq⟩ := Option.bind_eq_some_iff.mp hq
  cases hq
  refine ha u hu B F0 σ H vs ds _ s fun x1 H1 s1 => hb v hv B F0 σ H1 _ _ _ s1 fun y1 H2 s2 => ⟨x1, y1, rfl, g _ _ ?_⟩
  exact St.store j (St.store i s2.swap)
/-- x, y = a new owned object, b -/
theorem b_parO {od : α → OD} {k : α → β → Option δ} (i j : Nat) (hc : X.calm = true) (hN : X.N.Nodup) (ha : EO X od a ρ L oa) (hb : ∀ p u, EX X d' b ρ (L ++ [(p, od u)]) ob) (hr : ∀ p u v, BX X rest ((ρ.set i (some (.ptr p))).set j (some (.dat (d' v)))) (L ++ [(p, od u)]) (k u v) oc) (hij : i ≠ j := by decide) (hi : X.N[i]? = some x := by rfl) (hj : X.N[j]? = some y := by rfl)
    (hx : X.env.scope.names.lookup x = some .local := by rfl) (hy : X.env.scope.names.lookup y = some .local := by rfl) (h1 : starEach [a, b] X.env = (false, eval a X.env) :: starEach [b] X.env := by rfl) (h2 : starEach [b] X.env = (false, eval b X.env) :: starEach [] X.env := by rfl)
    (hw : swappedStores [.Tuple [.Name x px, .Name y py] kt pt] (.Tuple [a, b] k2 pt2) X.env = pure (some [x, y]) := by rfl)
    (hs : swapsWithSole [.Tuple [.Name x px, .Name y py] kt pt] (.Tuple [a, b] k2 pt2) pos.line X.env = pure false := by rfl) :
    BX X (.Assign [.Tuple [.Name x px, .Name y py] kt pt] (.Tuple [a, b] k2 pt2) pos :: rest) ρ L (oa.bind fun u => ob.bind fun v => k u v) oc := by
  obtain ⟨ta, pa, ha⟩ := ha
  obtain ⟨tb, pb, hb⟩ := EX.all (S := Addr × α) (ρf := fun _ => ρ) (Lf := fun q => L ++ [(q.1, od q.2)]) (k := fun _ => ob) fun q => hb q.1 q.2
  obtain ⟨t', p', hr⟩ := BX.all (S := Addr × α × β) (ρf := fun q => (ρ.set i (some (.ptr q.1))).set j (some (.dat (d' q.2.2)))) (Lf := fun q => L ++ [(q.1, od q.2.1)]) (k := fun q => k q.2.1 q.2.2) (fun q => hr q.1 q.2.1 q.2.2)
  refine ⟨_, pss_cons (ps_par hc hN hi hj hij hx hy (pa_cons pa (pa_cons pb pa_nil h2) h1) hw hs) p', fun q hq B F0 σ H vs ds D s g => ?_⟩
  obtain ⟨u, hu, hq⟩ := Option.bind_eq_some_iff.mp hq
  obtain ⟨v, hv, hq⟩ := Option.bind_eq_some_iff.mp hq
  refine ha u hu B F0 σ H vs ds _ s fun p1 H1 s1 => hb (p1, u) v hv B F0 σ H1 _ _ _ s1 fun y1 H2 s2 => ⟨.ref p1, y1, rfl, hr (p1, u, v) q hq B F0 _ _ vs ds D ?_ g⟩
  exact St.store j (St.store i s2.swap)
/-- x, y, z = two new owned objects, c -/
theorem b_par3OO {oda : α → OD} {odb : β → OD} {k : α → β → γ → Option δ} (i j l : Nat) (hc : X.calm = true) (hN : X.N.Nodup) (ha : EO X oda a ρ L oa) (hb : ∀ p u, EO X odb b ρ (L ++ [(p, oda u)]) ob) (hd : ∀ p u q v, EX X f c ρ ((L ++ [(p, oda u)]) ++ [(q, odb v)]) oc')
    (hr : ∀ p u q v w, BX X rest (((ρ.set i (some (.ptr p))).set j (some (.ptr q))).set l (some (.dat (f w)))) ((L ++ [(p, oda u)]) ++ [(q, odb v)]) (k u v w) oc) (hij : i ≠ j := by decide) (hil : i ≠ l := by decide) (hjl : j ≠ l := by decide) (hi : X.N[i]? = some x := by rfl) (hj : X.N[j]? = some y := by rfl) (hl : X.N[l]? = some z := by rfl)
    (hx : X.env.scope.names.lookup x = some .local := by rfl) (hy : X.env.scope.names.lookup y = some .local := by rfl) (hz : X.env.scope.names.lookup z = some .local := by rfl) (h1 : starEach [a, b, c] X.env = (false, eval a X.env) :: starEach [b, c] X.env := by rfl) (h2 : starEach [b, c] X.env = (false, eval b X.env) :: starEach [c] X.env := by rfl) (h3 : starEach [c] X.env = (false, eval c X.env) :: starEach [] X.env := by rfl)
    (hw : swappedStores [.Tuple [.Name x px, .Name y py, .Name z pz] kt pt] (.Tuple [a, b, c] k2 pt2) X.env = pure (some [x, y, z]) := by rfl)
    (hs : swapsWithSole [.Tuple [.Name x px, .Name y py, .Name z pz] kt pt] (.Tuple [a, b, c] k2 pt2) pos.line X.env = pure false := by rfl) :
    BX X (.Assign [.Tuple [.Name x px, .Name y py, .Name z pz] kt pt] (.Tuple [a, b, c] k2 pt2) pos :: rest) ρ L (oa.bind fun u => ob.bind fun v => oc'.bind fun w => k u v w) oc := by
  obtain ⟨ta, pa, ha⟩ := ha
  obtain ⟨tb, pb, hb⟩ : ∃ tb, PE X b tb ∧ ∀ p u v, ob = some v → ∀ B F0 σ H vs ds Q, St X.K B F0 ρ (L ++ [(p, oda u)]) σ H vs ds → (∀ q H', St X.K B F0 ρ ((L ++ [(p, oda u)]) ++ [(q, odb v)]) σ H' (.ref q :: vs) (.ptr q :: ds) → Q (.ref q) H') → tb σ H Q := by
    refine ⟨fun σ H Q => ∃ p u v B F0 vs ds, ob = some v ∧ St X.K B F0 ρ (L ++ [(p, oda u)]) σ H vs ds ∧ ∀ q H', St X.K B F0 ρ ((L ++ [(p, oda u)]) ++ [(q, odb v)]) σ H' (.ref q :: vs) (.ptr q :: ds) → Q (.ref q) H', ⟨fun pins s σ H Q I h => ?_⟩, fun p u v e B F0 σ H vs ds Q s k => ⟨p, u, v, B, F0, vs, ds, e, s, k⟩⟩
    obtain ⟨p, u, v, B, F0, vs, ds, e, st, k⟩ := h
    obtain ⟨tb, pb, hb⟩ := hb p u
    exact pb.run pins s σ H Q I (hb v e B F0 σ H vs ds Q st k)
  obtain ⟨tc, pc, hd⟩ := EX.all (S := Addr × α × Addr × β) (ρf := fun _ => ρ) (Lf := fun q => (L ++ [(q.1, oda q.2.1)]) ++ [(q.2.2.1, odb q.2.2.2)]) (k := fun _ => oc') fun q => hd q.1 q.2.1 q.2.2.1 q.2.2.2
  obtain ⟨t', p', hr⟩ := BX.all (S := Addr × α × Addr × β × γ) (ρf := fun q => ((ρ.set i (some (.ptr q.1))).set j (some (.ptr q.2.2.1))).set l (some (.dat (f q.2.2.2.2)))) (Lf := fun q => (L ++ [(q.1, oda q.2.1)]) ++ [(q.2.2.1, odb q.2.2.2.1)]) (k := fun q => k q.2.1 q.2.2.2.1 q.2.2.2.2) (fun q => hr q.1 q.2.1 q.2.2.1 q.2.2.2.1 q.2.2.2.2)
  refine ⟨_, pss_cons (ps_par3 hc hN hi hj hl hij hil hjl hx hy hz (pa_cons pa (pa_cons pb (pa_cons pc pa_nil h3) h2) h1) hw hs) p', fun q hq B F0 σ H vs ds D s g => ?_⟩
  obtain ⟨u, hu, hq⟩ := Option.bind_eq_some_iff.mp hq
  obtain ⟨v, hv, hq⟩ := Option.bind_eq_some_iff.mp hq
  obtain ⟨w, hw', hq⟩ := Option.bind_eq_some_iff.mp hq
  refine ha u hu B F0 σ H vs ds _ s fun p1 H1 s1 => hb p1 u v hv B F0 σ H1 _ _ _ s1 fun q1 H2 s2 => hd (p1, u, q1, v) w hw' B F0 σ H2 _ _ _ s2 fun y1 H3 s3 => ⟨.ref p1, .ref q1, y1, rfl, hr (p1, u, q1, v, w) q hq B F0 _ _ vs ds D ?_ g⟩
  have s4 : St X.K B F0 ρ ((L ++ [(p1, oda u)]) ++ [(q1, odb v)]) σ H3 (.ref p1 :: .ref q1 :: y1 :: vs) (.ptr p1 :: .ptr q1 :: .dat (f w) :: ds) := s3.stack fun F r => by
    cases r with | cons r1 t => cases t with | cons r2 t => cases t with | cons r3 t => exact .cons r3 (.cons r2 (.cons r1 t))
  exact St.store l (St.store j (St.store i s4))
end
end Mir
namespace Mir
open PySem L2

/-! ### by a written positive number -/
section
variable {X : Cx} {α β γ δ κ ν W S : Type} {e a b c o i : Expr} {es rest : List Stmt} {ρ ρ' : Env} {L : Ow} {pos px p2 tpos apos cpos : Pos} {d : α → PyData} {d' : β → PyData} {f : γ → PyData} {oc : δ → Oc} {p : Addr} {j n : Nat}
theorem x_modL {k : Int} {q : Nat} {oa : Option Int} (ha : EX X dI a ρ L oa) (hk : (0 : Int) < k := by decide) : EX X dI (.BinOp a .Mod (.Constant (.int k) q p2) pos) ρ L (oa.map (· % k)) := by
  obtain ⟨ta, pa, ha⟩ := ha
  refine ⟨_, pe_op op_mod pa pe_int, fun z hz B F0 σ H vs ds Q s r => ?_⟩
  obtain ⟨x, hx, rfl⟩ := Option.map_eq_some_iff.mp hz
  exact ha x hx B F0 σ H vs ds _ s fun v H1 s1 => ⟨x, k, s1.isInt, rfl, hk, r _ _ s1.pop.int⟩
theorem x_divL {k : Int} {q : Nat} {oa : Option Int} (ha : EX X dI a ρ L oa) (hk : (0 : Int) < k ∧ k < 1073741824 := by decide) : EX X dI (.BinOp a .FloorDiv (.Constant (.int k) q p2) pos) ρ L (oa.map (· / k)) := by
  obtain ⟨ta, pa, ha⟩ := ha
  refine ⟨_, pe_op op_fdiv pa pe_int, fun z hz B F0 σ H vs ds Q s r => ?_⟩
  obtain ⟨x, hx, rfl⟩ := Option.map_eq_some_iff.mp hz
  exact ha x hx B F0 σ H vs ds _ s fun v H1 s1 => ⟨x, k, s1.isInt, rfl, hk, r _ _ s1.pop.int⟩
theorem x_mulL {k : Int} {q : Nat} {oa : Option Int} (ha : EX X dI a ρ L oa) (hk : smallI k = true := by rfl) : EX X dI (.BinOp a .Mult (.Constant (.int k) q p2) pos) ρ L (oa.map (· * k)) := by
  obtain ⟨ta, pa, ha⟩ := ha
  refine ⟨_, pe_op op_mul pa pe_int, fun z hz B F0 σ H vs ds Q s r => ?_⟩
  obtain ⟨x, hx, rfl⟩ := Option.map_eq_some_iff.mp hz
  exact ha x hx B F0 σ H vs ds _ s fun v H1 s1 => ⟨x, k, s1.isInt, rfl, .inr (smallI_iff.mp hk), r _ _ s1.pop.int⟩
theorem x_mulLl {k : Int} {q : Nat} {oa : Option Int} (ha : EX X dI a ρ L oa) (hk : smallI k = true := by rfl) : EX X dI (.BinOp (.Constant (.int k) q p2) .Mult a pos) ρ L (oa.map (k * ·)) := by
  obtain ⟨ta, pa, ha⟩ := ha
  refine ⟨_, pe_op op_mul pe_int pa, fun z hz B F0 σ H vs ds Q s r => ?_⟩
  obtain ⟨x, hx, rfl⟩ := Option.map_eq_some_iff.mp hz
  exact ha x hx B F0 σ H (.int k :: vs) (.dat (.int k) :: ds) _ s.int fun v H1 s1 => ⟨k, x, rfl, s1.isInt, .inl (smallI_iff.mp hk), r _ _ s1.pop.pop.int⟩

/-! ### slots of any kind -/
theorem s_setS {sl : Sl} (i : Nat) {x : Str} (hN : X.N.Nodup) (h : ES X e ρ L (some sl)) (hs : swapsWith e (some (.Name x px)) pos.line X.env = pure false := by rfl) (hi : X.N[i]? = some x := by rfl) (hx : Loc X.env.scope x := by first | exact Or.inl rfl | exact Or.inr rfl) (hf : X.fn x = true ∨ X.env.scope.names.lookup x = some .local := by first | exact .inl rfl | exact .inr rfl) :
    SX X (.Assign [.Name x px] e pos) ρ L (some ()) (ocn fun _ => (ρ.set i (some sl), L)) := by
  obtain ⟨t, p, h⟩ := h
  exact ⟨_, ps_set hN hi hx p hs hf, fun a ha B F0 σ H vs ds D s q => h _ rfl B F0 σ H vs ds _ s fun v H1 s1 => q _ _ (s1.store i)⟩
/-- o[k], an item of an owned list of any slots -/
theorem s_ixO {sls : List Sl} {sl : Sl} {k : Int} {q : Nat} (j : Nat) (hL : L[j]? = some (p, .lst sls)) (ho : ES X o ρ L (some (.ptr p))) (hk : atI sls k = some sl) (hs : PlainIx (.Constant (.int k) q p2) := by intro _ _; rfl) : ES X (.Subscript o (.Constant (.int k) q p2) pos) ρ L (some sl) := by
  obtain ⟨t, po, ho⟩ := ho
  refine ⟨_, pe_ix ix_list po pe_int hs, fun z hz B F0 σ H vs ds Q s r => ?_⟩
  cases hz
  refine ho _ rfl B F0 σ H vs ds _ s fun v H1 s1 => ?_
  have ev := s1.isPtr
  obtain ⟨F, ok, sl', sv⟩ := s1
  obtain ⟨us, g2, g3⟩ := ok.at_ hL
  obtain ⟨w, hw, rw'⟩ := pr_atI g3 hk
  exact ⟨p, us, k, w, ev, rfl, SqL.of g2, hw, r w H1 ⟨F, ok, sl', by cases sv with | cons _ t => exact .cons rw' t⟩⟩
/-- o[k] = e, such an item stored -/
theorem s_setIO {sls : List Sl} {k : Int} {q : Nat} {oe : Option α} {m : Nat} (j : Nat) (hL : L[j]? = some (p, .lst sls)) (ho : ES X o ρ L (some (.ptr p))) (h : EX X d e ρ L oe) (hm : ixN sls.length k = some m)
    (hs : swapsWithSole [.Subscript o (.Constant (.int k) q p2) tpos] e pos.line X.env = pure false := by rfl) (hw : swappedStores [.Subscript o (.Constant (.int k) q p2) tpos] e X.env = pure none := by rfl) (h1 : (assignEach [.Subscript o (.Constant (.int k) q p2) tpos] X.env).map (·.2) = [assign (.Subscript o (.Constant (.int k) q p2) tpos) X.env] := by rfl)
    (hg : ∀ {to}, PE X o to → PG X (.Subscript o (.Constant (.int k) q p2) tpos) (gSub to (tC (.int k)) rSetL) := by intro _ h1; exact pg_sub h1 pe_int set_list) :
    SX X (.Assign [.Subscript o (.Constant (.int k) q p2) tpos] e pos) ρ L oe (ocn fun a => (ρ, L.set j (p, .lst (sls.set m (.dat (d a)))))) := by
  obtain ⟨to, po, ho⟩ := ho
  obtain ⟨te, pe, h⟩ := h
  refine ⟨_, ps_asg pe (hg po) hs hw h1, fun a ha B F0 σ H vs ds D s r => ?_⟩
  refine h a ha B F0 σ H vs ds _ s fun u H1 s1 => ho _ rfl B F0 σ H1 _ _ _ s1 fun v H2 s2 => ?_
  have ev := s2.isPtr
  obtain ⟨F, ok, sl, sv⟩ := s2.pop
  obtain ⟨us, g2, g3⟩ := ok.at_ hL
  have hlen : us.length = sls.length := Paired.length g3
  have hz := ok.sz _ _ g2
  cases sv with
  | cons r1 t =>
    exact ⟨p, us, k, m, ev, rfl, g2, by rw [hlen]; exact hm, r _ _ ⟨F, ok.put hL (d' := .lst (sls.set m (.dat (d a)))) (o := .lst (us.set m u)) (by show (us.set m u).length ≤ sizeLine; rw [List.length_set]; exact hz) ⟨_, upd_same, pr_set r1 m g3⟩, sl, t⟩⟩
/-- xs.pop(k) of ints written, its value dropped -/
noncomputable def popO {α : Type} (xs : List α) (i : Int) : Option (α × List α) := @ite _ (-9223372036854775808 ≤ i ∧ i < 9223372036854775808) (Classical.propDecidable _) ((seqIndex? i xs.length).bind fun k => (xs[k]?).map fun y => (y, xs.eraseIdx k)) none
theorem pop_core {xs : List α} {B F0 : Hp} {σ : L2.St} {H : Hp} {vs : List V} {ds : List Sl} {Q : VK} {k : Int} {y : α} {ys : List α} (hL : L[j]? = some (p, odL d xs)) (hy : popO xs k = some (y, ys)) (s : St X.K B F0 ρ L σ H vs ds)
    (q : ∀ v H', St X.K B F0 ρ (L.set j (p, odL d ys)) σ H' (v :: vs) (.dat (d y) :: ds) → Q v H') : rPopAt (.ref p) [.int k] H Q := by
  unfold popO at hy
  split at hy
  · rename_i hb
    obtain ⟨m, hm, hy⟩ := Option.bind_eq_some_iff.mp hy
    obtain ⟨z, hz, e⟩ := Option.map_eq_some_iff.mp hy
    injection e with e1 e2
    subst e1 e2
    obtain ⟨F, ok, sl, sv⟩ := s
    obtain ⟨us, g2, g3⟩ := ok.at_ hL
    have hlen : us.length = xs.length := by rw [Paired.length g3, List.length_map, List.length_map]
    obtain ⟨u, hu, ru⟩ := pr_get g3 (show ((xs.map d).map Sl.dat)[m]? = some (.dat (d z)) by simp [hz])
    refine ⟨p, us, k, m, u, rfl, rfl, g2, hb.1, hb.2, by rw [hlen]; exact hm, hu, q _ _ ⟨F, ok.put hL (d' := odL d (xs.eraseIdx m)) (o := .lst (us.eraseIdx m)) ?_ ⟨_, upd_same, ?_⟩, sl, .cons ru sv⟩⟩
    · exact Nat.le_trans (len_erase us m) (ok.sz _ _ g2)
    · rw [map_erase', map_erase']
      exact pr_erase m g3
  · cases hy
  where map_erase' {τ υ : Type} {f : τ → υ} : ∀ {l : List τ} {m : Nat}, (l.eraseIdx m).map f = (l.map f).eraseIdx m
    | [], _ => rfl
    | _ :: _, 0 => rfl
    | a :: l, m + 1 => by rw [List.map_cons, List.eraseIdx_cons_succ, List.eraseIdx_cons_succ, List.map_cons, map_erase']
theorem s_pop {xs : List α} {oi : Option Int} (j : Nat) (hL : L[j]? = some (p, odL d xs)) (ho : ES X o ρ L (some (.ptr p))) (hi : EX X dI i ρ L oi) (hs : swapsWith (.Call (.Attribute o "pop" apos) [i] [] cpos) none pos.line X.env = pure false := by rfl)
    (hh : ∀ {to te}, PE X o to → PE X i te → PE X (.Call (.Attribute o "pop" apos) [i] [] cpos) (tBM X.K "list" rPopAt to (tCons te tNil)) := by intro _ _ h1 h2; exact pe_bm PySem.F.plainAttrs_list PySem.F.slot_list_pop PySem.F.type_list_pop mt_popAt h1 (pa_cons h2 pa_nil)) :
    SX X (.Expr (.Call (.Attribute o "pop" apos) [i] [] cpos) pos) ρ L (oi.bind fun k => popO xs k) (ocn fun q => (ρ, L.set j (p, odL d q.2))) := by
  obtain ⟨to, po, ho⟩ := ho
  obtain ⟨ti, pi, hi⟩ := hi
  refine ⟨_, ps_expr (hh po pi) hs, fun z hz B F0 σ H vs ds D s q => ?_⟩
  obtain ⟨k, hk, hz⟩ := Option.bind_eq_some_iff.mp hz
  refine ho _ rfl B F0 σ H vs ds _ s fun v H1 s1 => ?_
  obtain ⟨us1, g1, _, _, _⟩ := s1.own1 (mem_at hL)
  have ev := s1.isPtr
  subst ev
  refine ⟨.inl ⟨rfl, _, SqL.of g1⟩, hi k hk B F0 σ H1 _ _ _ s1 fun u H2 s2 => ?_⟩
  rw [s2.isInt]
  exact pop_core hL hz s2.pop.pop fun v H' s3 => q _ _ s3.pop
/-- x = xs.pop(k) -/
theorem s_setPop {xs : List α} {oi : Option Int} {x : Str} (ix : Nat) (j : Nat) (hN : X.N.Nodup) (hL : L[j]? = some (p, odL d xs)) (ho : ES X o ρ L (some (.ptr p))) (hi : EX X dI i ρ L oi) (hs : swapsWith (.Call (.Attribute o "pop" apos) [i] [] cpos) (some (.Name x px)) pos.line X.env = pure false := by rfl)
    (hh : ∀ {to te}, PE X o to → PE X i te → PE X (.Call (.Attribute o "pop" apos) [i] [] cpos) (tBM X.K "list" rPopAt to (tCons te tNil)) := by intro _ _ h1 h2; exact pe_bm PySem.F.plainAttrs_list PySem.F.slot_list_pop PySem.F.type_list_pop mt_popAt h1 (pa_cons h2 pa_nil))
    (hxi : X.N[ix]? = some x := by rfl) (hx : Loc X.env.scope x := by first | exact Or.inl rfl | exact Or.inr rfl) (hf : X.fn x = true ∨ X.env.scope.names.lookup x = some .local := by first | exact .inl rfl | exact .inr rfl) :
    SX X (.Assign [.Name x px] (.Call (.Attribute o "pop" apos) [i] [] cpos) pos) ρ L (oi.bind fun k => popO xs k) (ocn fun q => (ρ.set ix (some (.dat (d q.1))), L.set j (p, odL d q.2))) := by
  obtain ⟨to, po, ho⟩ := ho
  obtain ⟨ti, pi, hi⟩ := hi
  refine ⟨_, ps_set hN hxi hx (hh po pi) hs hf, fun z hz B F0 σ H vs ds D s q => ?_⟩
  obtain ⟨k, hk, hz⟩ := Option.bind_eq_some_iff.mp hz
  refine ho _ rfl B F0 σ H vs ds _ s fun v H1 s1 => ?_
  obtain ⟨us1, g1, _, _, _⟩ := s1.own1 (mem_at hL)
  have ev := s1.isPtr
  subst ev
  refine ⟨.inl ⟨rfl, _, SqL.of g1⟩, hi k hk B F0 σ H1 _ _ _ s1 fun u H2 s2 => ?_⟩
  rw [s2.isInt]
  exact pop_core hL hz s2.pop.pop fun v H' s3 => q _ _ (s3.store ix)
/-! ### an owned list becomes data -/
theorem St.frzAt {K : PySem.W.Frag} {B F0 H : Hp} {σ : L2.St} {vs : List V} {ds : List Sl} {i : Nat} {xs : List PyData} (j : Nat) (hi : ρ[i]? = some (some (.ptr p))) (hL : L[j]? = some (p, .lst (xs.map .dat))) (h : St K B F0 ρ L σ H vs ds) : St K B F0 (ρ.set i (some (.dat (.list xs)))) (L.eraseIdx j) σ H vs ds := by
  obtain ⟨F, k, a, b⟩ := h
  obtain ⟨e1, _⟩ := ow_split hL (p, .lst (xs.map .dat))
  have e3 : L.eraseIdx j = L.take j ++ L.drop (j + 1) := List.eraseIdx_eq_take_drop_succ L j
  rw [e1] at k
  obtain ⟨F', k', s, r⟩ := k.freeze
  rw [← e3] at k'
  refine ⟨F', k', ?_, svs_mono s b⟩
  obtain ⟨v, h1, h2⟩ := pr_at a hi
  have h2' : v = .ref p := h2
  have a' := sls_mono s a
  have : σ = σ.set i (some v) := by
    obtain ⟨hlt, e⟩ := List.getElem?_eq_some_iff.mp h1
    rw [← e, List.set_getElem_self]
  rw [this]
  exact pr_set (show SlR K F' (some v) (some (.dat (.list xs))) by rw [h2']; exact r) i a'
theorem b_frz {xs : List α} {m : Option δ} (i j : Nat) (hi : ρ[i]? = some (some (.ptr p))) (hL : L[j]? = some (p, odL d xs)) (h : BX X es (ρ.set i (some (.dat (dL d xs)))) (L.eraseIdx j) m oc) : BX X es ρ L m oc := by
  obtain ⟨t, q, h⟩ := h
  exact ⟨t, q, fun b hb B F0 σ H vs ds D s g => h b hb B F0 σ H vs ds D (s.frzAt j hi hL) g⟩
/-- forget slots, let go what is youngest -/
theorem b_mask {m : Option δ} (bs : List Bool) {M1 M2 : Ow} (h : BX X es (mask bs ρ) M1 m oc) (hL : L = M1 ++ M2 := by rfl) : BX X es ρ L m oc := by
  obtain ⟨t, q, h⟩ := h
  subst hL
  exact ⟨t, q, fun b hb B F0 σ H vs ds D s g => h b hb B F0 σ H vs ds D (s.mask bs).part g⟩

/-! ### expressions that turn the world -/
theorem EM.all {Lf : W → Ow} {ρf : S → Env} {wf : S → W} {k : S → Option (α × W)} (h : ∀ s, EM X d e (ρf s) Lf (wf s) (k s)) :
    ∃ t, PE X e t ∧ ∀ s a w', k s = some (a, w') → ∀ B F0 σ H vs ds Q, St X.K B F0 (ρf s) (Lf (wf s)) σ H vs ds → (∀ v H', St X.K B F0 (ρf s) (Lf w') σ H' (v :: vs) (.dat (d a) :: ds) → Q v H') → t σ H Q := by
  refine ⟨fun σ H Q => ∃ s a w' B F0 vs ds, k s = some (a, w') ∧ St X.K B F0 (ρf s) (Lf (wf s)) σ H vs ds ∧ ∀ v H', St X.K B F0 (ρf s) (Lf w') σ H' (v :: vs) (.dat (d a) :: ds) → Q v H', ⟨fun pins s σ H Q I h2 => ?_⟩, fun s a w' e B F0 σ H vs ds Q q g => ⟨s, a, w', B, F0, vs, ds, e, q, g⟩⟩
  obtain ⟨s', a, w', B, F0, vs, ds, e, q, g⟩ := h2
  obtain ⟨t, p, h⟩ := h s'
  exact p.run pins s σ H Q I (h a w' e B F0 σ H vs ds Q q g)
theorem m_cmp {op : CmpOp} {r : R2} {g : α → β → Option γ} {Lf : W → Ow} {w : W} {ma : Option (α × W)} {mb : α → W → Option (β × W)} (ho : OpR X (compareOp op) r) (hg : Op2 X.K r d d' f g) (ha : EM X d a ρ Lf w ma) (hb : ∀ x w1, EM X d' b ρ Lf w1 (mb x w1)) (hm : behindInMarks op b = false := by exact nomark _) :
    EM X f (.Compare a [op] [b] pos) ρ Lf w (ma.bind fun x => (mb x.1 x.2).bind fun y => (g x.1 y.1).map fun z => (z, y.2)) := by
  obtain ⟨ta, pa, ha⟩ := ha
  obtain ⟨tb, pb, hb⟩ := EM.all (S := α × W) (ρf := fun _ => ρ) (wf := fun q => q.2) (k := fun q => mb q.1 q.2) fun q => hb q.1 q.2
  refine ⟨_, pe_cmpR ho pa pb hm, fun z w3 hz B F0 σ H vs ds Q s k => ?_⟩
  obtain ⟨⟨x, w1⟩, hx, hz⟩ := Option.bind_eq_some_iff.mp hz
  obtain ⟨⟨y, w2⟩, hy, hz⟩ := Option.bind_eq_some_iff.mp hz
  obtain ⟨z', hz', e⟩ := Option.map_eq_some_iff.mp hz
  injection e with e1 e2
  subst e1 e2
  exact ha x w1 hx B F0 σ H vs ds _ s fun v H1 s1 => hb (x, w1) y w2 hy B F0 σ H1 _ _ _ s1 fun u H2 s2 => hg x y _ hz' B F0 ρ _ σ H2 vs ds v u Q s2 k
theorem tm_cmp {op : CmpOp} {r : R2} {g : α → β → Option Bool} {Lf : W → Ow} {w : W} {ma : Option (α × W)} {mb : α → W → Option (β × W)} (ho : OpR X (compareOp op) r) (hg : Op2 X.K r d d' dB g) (ha : EM X d a ρ Lf w ma) (hb : ∀ x w1, EM X d' b ρ Lf w1 (mb x w1)) (hm : behindInMarks op b = false := by exact nomark _) :
    TM X (.Compare a [op] [b] pos) ρ Lf w (ma.bind fun x => (mb x.1 x.2).bind fun y => (g x.1 y.1).map fun z => (z, y.2)) := by
  obtain ⟨ta, pa, ha⟩ := ha
  obtain ⟨tb, pb, hb⟩ := EM.all (S := α × W) (ρf := fun _ => ρ) (wf := fun q => q.2) (k := fun q => mb q.1 q.2) fun q => hb q.1 q.2
  refine ⟨_, pt_cmpR ho pa pb hm, fun z w3 hz B F0 σ H vs ds Q s k => ?_⟩
  obtain ⟨⟨x, w1⟩, hx, hz⟩ := Option.bind_eq_some_iff.mp hz
  obtain ⟨⟨y, w2⟩, hy, hz⟩ := Option.bind_eq_some_iff.mp hz
  obtain ⟨z', hz', e⟩ := Option.map_eq_some_iff.mp hz
  injection e with e1 e2
  subst e1 e2
  exact ha x w1 hx B F0 σ H vs ds _ s fun v H1 s1 => hb (x, w1) y w2 hy B F0 σ H1 _ _ _ s1 fun u H2 s2 => hg x y _ hz' B F0 ρ _ σ H2 vs ds v u _ s2 fun w H3 s3 => ⟨_, s3.isBl, k H3 s3.pop⟩
/-- a sequence, then an index that may turn the world -/
theorem m_ix {Lf : W → Ow} {w : W} {ox : Option (List α)} {mi : List α → Option (Int × W)} (h : EX X (dT d) e ρ (Lf w) ox) (hi : ∀ x, EM X dI i ρ Lf w (mi x)) (hs : PlainIx i := by intro _ _; rfl) : EM X d (.Subscript e i pos) ρ Lf w (ox.bind fun xs => (mi xs).bind fun n => (atO xs n.1).map fun z => (z, n.2)) := by
  obtain ⟨t, p, h⟩ := h
  obtain ⟨t', p', h'⟩ := EM.all (S := List α) (ρf := fun _ => ρ) (wf := fun _ => w) (k := mi) hi
  refine ⟨_, pe_ix ix_tup p p' hs, fun z w3 hz B F0 σ H vs ds Q s k => ?_⟩
  obtain ⟨xs, hx, hz⟩ := Option.bind_eq_some_iff.mp hz
  obtain ⟨⟨n, w2⟩, hn, hz⟩ := Option.bind_eq_some_iff.mp hz
  obtain ⟨z', hz', e⟩ := Option.map_eq_some_iff.mp hz
  injection e with e1 e2
  subst e1 e2
  refine h xs hx B F0 σ H vs ds _ s fun v H1 s1 => h' xs n w2 hn B F0 σ H1 _ _ _ s1 fun u H2 s2 => ?_
  have eu := s2.isInt
  obtain ⟨a, us, rfl, h1, h2, _, h3⟩ := s2.pop.tup1
  have hz2 : atI (xs.map d) n = some (d z') := by rw [atI_map, show atI xs n = some z' from hz']; rfl
  obtain ⟨F, ok, sl', sv⟩ := h3
  obtain ⟨sv1, sv2⟩ := pr_split (by rw [List.length_map]; exact h2) sv
  obtain ⟨w, hw, r⟩ := pr_atI sv1 (show atI ((xs.map d).map Sl.dat) n = some (.dat (d z')) by rw [atI_map, hz2]; rfl)
  exact ⟨a, us, n, w, rfl, eu, SqT.of h1, hw, k w H2 ⟨F, ok, sl', .cons r (by cases sv2 with | cons _ t => exact t)⟩⟩
theorem m_ixL {Lf : W → Ow} {w : W} {ox : Option (List α)} {mi : List α → Option (Int × W)} (h : EX X (dL d) e ρ (Lf w) ox) (hi : ∀ x, EM X dI i ρ Lf w (mi x)) (hs : PlainIx i := by intro _ _; rfl) : EM X d (.Subscript e i pos) ρ Lf w (ox.bind fun xs => (mi xs).bind fun n => (atO xs n.1).map fun z => (z, n.2)) := by
  obtain ⟨t, p, h⟩ := h
  obtain ⟨t', p', h'⟩ := EM.all (S := List α) (ρf := fun _ => ρ) (wf := fun _ => w) (k := mi) hi
  refine ⟨_, pe_ix ix_list p p' hs, fun z w3 hz B F0 σ H vs ds Q s k => ?_⟩
  obtain ⟨xs, hx, hz⟩ := Option.bind_eq_some_iff.mp hz
  obtain ⟨⟨n, w2⟩, hn, hz⟩ := Option.bind_eq_some_iff.mp hz
  obtain ⟨z', hz', e⟩ := Option.map_eq_some_iff.mp hz
  injection e with e1 e2
  subst e1 e2
  refine h xs hx B F0 σ H vs ds _ s fun v H1 s1 => h' xs n w2 hn B F0 σ H1 _ _ _ s1 fun u H2 s2 => ?_
  have eu := s2.isInt
  obtain ⟨a, us, rfl, h1, h2, _, h3⟩ := s2.pop.lst1
  have hz2 : atI (xs.map d) n = some (d z') := by rw [atI_map, show atI xs n = some z' from hz']; rfl
  obtain ⟨F, ok, sl', sv⟩ := h3
  obtain ⟨sv1, sv2⟩ := pr_split (by rw [List.length_map]; exact h2) sv
  obtain ⟨w, hw, r⟩ := pr_atI sv1 (show atI ((xs.map d).map Sl.dat) n = some (.dat (d z')) by rw [atI_map, hz2]; rfl)
  exact ⟨a, us, n, w, rfl, eu, SqL.of h1, hw, k w H2 ⟨F, ok, sl', .cons r (by cases sv2 with | cons _ t => exact t)⟩⟩
/-- tuple(..) of a new list in a world that turns -/
theorem m_tuple {Lf : W → Ow} {w : W} {m : Option (List α × W)} {p : Pos} (h : EM X (dL d) e ρ Lf w m) (hm : X.mg "tuple" = none)
    (hh : X.mg "tuple" = none → ∀ {ta}, PE X e ta → PE X (.Call (.Name "tuple" p) [e] [] pos) (tCB (fun xs H Q => ∃ p ys, xs = [.ref p] ∧ ((SqL X.K H p ys ∧ ∀ l, H l = none → Q (.ref l) (upd H l (.tup ys))) ∨ (SqT X.K H p ys ∧ Q (.ref p) H))) (tCons ta tNil)) := by intro hm _ h; exact pe_callTy call_tuple_of (by rfl) hm PyProof.Rows.boot_tuple (pa_cons h pa_nil)) :
    EM X (dT d) (.Call (.Name "tuple" p) [e] [] pos) ρ Lf w m := by
  obtain ⟨t, p, h⟩ := h
  refine ⟨_, hh hm p, fun xs w' hx B F0 σ H vs ds Q s k => h xs w' hx B F0 σ H vs ds _ s fun v H1 s1 => ?_⟩
  obtain ⟨a, us, rfl, h1, h2, h4, h3⟩ := s1.lst1
  have s3 := h3.stack (ws := us ++ vs) (es := (xs.map d).map .dat ++ ds) fun F r => by
    obtain ⟨r1, r2⟩ := pr_split (by rw [List.length_map]; exact h2) r
    exact pr_app r1 (by cases r2 with | cons _ t => exact t)
  exact ⟨a, us, rfl, .inl ⟨SqL.of h1, fun l hl' => k _ _ (s3.newTup h2 hl' h4)⟩⟩
theorem m_pair {Lf : W → Ow} {w : W} {k} {ma : Option (α × W)} {mb : α → W → Option (β × W)} (ha : EM X d a ρ Lf w ma) (hb : ∀ x w1, EM X d' b ρ Lf w1 (mb x w1)) (h1 : starEach [a, b] X.env = (false, eval a X.env) :: starEach [b] X.env := by rfl) (h2 : starEach [b] X.env = (false, eval b X.env) :: starEach [] X.env := by rfl) :
    EM X (dP d d') (.Tuple [a, b] k pos) ρ Lf w (ma.bind fun x => (mb x.1 x.2).bind fun y => some ((x.1, y.1), y.2)) := by
  obtain ⟨ta, pa, ha⟩ := ha
  obtain ⟨tb, pb, hb⟩ := EM.all (S := α × W) (ρf := fun _ => ρ) (wf := fun q => q.2) (k := fun q => mb q.1 q.2) fun q => hb q.1 q.2
  refine ⟨_, pe_tup (pa_cons pa (pa_cons pb pa_nil h2) h1), fun z w3 hz B F0 σ H vs ds Q s k => ?_⟩
  obtain ⟨⟨x, w1⟩, hx, hz⟩ := Option.bind_eq_some_iff.mp hz
  obtain ⟨⟨y, w2⟩, hy, hz⟩ := Option.bind_eq_some_iff.mp hz
  cases hz
  refine ha x w1 hx B F0 σ H vs ds _ s fun v H1 s1 => hb (x, w1) y w2 hy B F0 σ H1 _ _ _ s1 fun u H2 s2 => ⟨sz_of (by decide : 2 ≤ 1000), fun p hp => k _ _ ?_⟩
  exact St.newTup (xs := [d x, d' y]) (us := [v, u]) s2.swap rfl hp (sz_of (by decide : 2 ≤ 1000))
/-- arguments that turn the world -/
theorem am_nil {Lf : W → Ow} {w : W} : AM X (fun _ : Unit => []) [] ρ Lf w (some ((), w)) := (a_nil (L := Lf w)).m
theorem am_cons {Lf : W → Ow} {w : W} {ess : List Expr} {enc : β → List Sl} {ma : Option (α × W)} {mb : α → W → Option (β × W)} (ha : EM X d e ρ Lf w ma) (hr : ∀ x w1, AM X enc ess ρ Lf w1 (mb x w1)) (hs : starEach (e :: ess) X.env = (false, eval e X.env) :: starEach ess X.env := by rfl) :
    AM X (fun p : α × β => Sl.dat (d p.1) :: enc p.2) (e :: ess) ρ Lf w (ma.bind fun x => (mb x.1 x.2).bind fun y => some ((x.1, y.1), y.2)) := by
  obtain ⟨t, p, h⟩ := ha
  obtain ⟨t', p', h'⟩ : ∃ tb, PA X ess tb ∧ ∀ x w1, ∀ a w', mb x w1 = some (a, w') → ∀ B F0 σ H vs ds Q, St X.K B F0 ρ (Lf w1) σ H vs ds → (∀ us H', us.length = (enc a).length → St X.K B F0 ρ (Lf w') σ H' (us ++ vs) (enc a ++ ds) → Q us H') → tb σ H Q := by
    refine ⟨fun σ H Q => ∃ x w1 a w' B F0 vs ds, mb x w1 = some (a, w') ∧ St X.K B F0 ρ (Lf w1) σ H vs ds ∧ ∀ us H', us.length = (enc a).length → St X.K B F0 ρ (Lf w') σ H' (us ++ vs) (enc a ++ ds) → Q us H', ⟨fun pos pins s σ H Q I h => ?_⟩, fun x w1 a w' e B F0 σ H vs ds Q s k => ⟨x, w1, a, w', B, F0, vs, ds, e, s, k⟩⟩
    obtain ⟨x, w1, a, w', B, F0, vs, ds, e, st, k⟩ := h
    obtain ⟨tb, pb, hb⟩ := hr x w1
    exact pb.run pos pins s σ H Q I (hb a w' e B F0 σ H vs ds Q st k)
  refine ⟨_, pa_cons p p' hs, fun z w3 hz B F0 σ H vs ds Q s k => ?_⟩
  obtain ⟨⟨x, w1⟩, hx, hz⟩ := Option.bind_eq_some_iff.mp hz
  obtain ⟨⟨y, w2⟩, hy, hz⟩ := Option.bind_eq_some_iff.mp hz
  cases hz
  refine h x w1 hx B F0 σ H vs ds _ s fun v H1 s1 => h' x w1 y w2 hy B F0 σ H1 _ _ _ s1 fun us H2 e2 s2 => ?_
  exact k (v :: us) H2 (by simp [e2]) (s2.args e2)
theorem am_sl {Lf : W → Ow} {w : W} {ess : List Expr} {enc : β → List Sl} {sl : Sl} {mb : Option (β × W)} (ha : ES X e ρ (Lf w) (some sl)) (hr : AM X enc ess ρ Lf w mb) (hs : starEach (e :: ess) X.env = (false, eval e X.env) :: starEach ess X.env := by rfl) :
    AM X (fun p : β => sl :: enc p) (e :: ess) ρ Lf w mb := by
  obtain ⟨t, p, h⟩ := ha
  obtain ⟨t', p', h'⟩ := hr
  refine ⟨_, pa_cons p p' hs, fun z w3 hz B F0 σ H vs ds Q s k => ?_⟩
  refine h sl rfl B F0 σ H vs ds _ s fun v H1 s1 => h' z w3 hz B F0 σ H1 _ _ _ s1 fun us H2 e2 s2 => ?_
  exact k (v :: us) H2 (by simp [e2]) (s2.args e2)
/-- a test by its value, in a world that turns -/
theorem tm_val {Lf : W → Ow} {w : W} {o : Option (Bool × W)} (h : EM X dB e ρ Lf w o) (he : ∀ whole, isTrue e X.env whole = (do let v ← whole; standAt e.pos; holding [v] (truthy v)) := by intro _; rfl) : TM X e ρ Lf w o := by
  obtain ⟨t, p, h⟩ := h
  exact ⟨_, pt_val p he, fun b w' hb B F0 σ H vs ds Q s k => h b w' hb B F0 σ H vs ds _ s fun v H' s' => ⟨b, s'.isBl, k H' s'.pop⟩⟩
/-- if on such a test -/
theorem s_ifM {Lf : W → Ow} {w : W} {A A' : List Stmt} {o : Option (Bool × W)} {m m' : W → Option δ} (hc : TM X c ρ Lf w o) (h : ∀ w, BX X A ρ (Lf w) (m w) oc) (h' : ∀ w, BX X A' ρ (Lf w) (m' w) oc) : SX X (.If c A A' pos) ρ (Lf w) (o.bind fun k => if k.1 then m k.2 else m' k.2) oc := by
  obtain ⟨t, p, hc⟩ := hc
  obtain ⟨t1, p1, h⟩ := BX.all h
  obtain ⟨t2, p2, h'⟩ := BX.all h'
  refine ⟨_, ps_if p p1 p2, fun b hb B F0 σ H vs ds D s g => ?_⟩
  obtain ⟨⟨k, w1⟩, hk, hb⟩ := Option.bind_eq_some_iff.mp hb
  refine hc k w1 hk B F0 σ H vs ds _ s fun H1 s1 => ?_
  cases k with
  | true => exact iteT (h w1 b (by simpa using hb) B F0 σ H1 vs ds D s1 g)
  | false => exact iteF (h' w1 b (by simpa using hb) B F0 σ H1 vs ds D s1 g)
/-- a for over what an expression gives that turns the world -/
def IM (X : Cx) (tg iter : Expr) (ρ : Env) (Lf : W → Ow) (w : W) (PL : Ow → Prop) (lim : Bool) (e : α → Sl) (o : Option (List α × W)) : Prop :=
  ∃ wi, PI X tg iter wi ∧ ∀ xs w', o = some (xs, w') → ∀ B F0 σ H vs ds R, St X.K B F0 ρ (Lf w) σ H vs ds →
    (∀ J H1 pv pd, pv.length = pd.length → (lim = true → xs.length ≤ sizeLine) → St X.K B F0 ρ (Lf w') σ H1 (pv ++ vs) (pd ++ ds) → Walk X.K J pv pd PL e xs → R J H1) → wi σ H R
theorem IX.m {tg iter : Expr} {Lf : W → Ow} {w : W} {PL : Ow → Prop} {lim : Bool} {en : α → Sl} {o : Option (List α)} (h : IX X tg iter ρ (Lf w) PL lim en o) : IM X tg iter ρ Lf w PL lim en (o.map fun a => (a, w)) := by
  obtain ⟨t, p, h⟩ := h
  refine ⟨t, p, fun xs w' hm B F0 σ H vs ds R s k => ?_⟩
  obtain ⟨x, hx, e⟩ := Option.map_eq_some_iff.mp hm
  injection e with e1 e2
  subst e1 e2
  exact h _ hx B F0 σ H vs ds R s k
theorem im_range {tg : Expr} {Lf : W → Ow} {w : W} {m : Option (Int × W)} {p : Pos} (h : EM X dI e ρ Lf w m) (hm : X.mg "range" = none) (hg : Gl X "range" := by rfl) (hs : starEach [e] X.env = [(false, eval e X.env)] := by rfl) (hs2 : starEach [e] X.env = (false, eval e X.env) :: starEach [] X.env := by rfl) : IM X tg (.Call (.Name "range" p) [e] [] pos) ρ Lf w anyL false (fun x => .dat (dI x)) (m.bind fun n => (rngO 0 n.1).map fun xs => (xs, n.2)) := by
  obtain ⟨t, q, h⟩ := h
  refine ⟨_, pi_range1 hg hm (pa_cons q pa_nil hs2) hs, fun xs w' hx B F0 σ H vs ds R s k => ?_⟩
  obtain ⟨⟨n, w2⟩, hn, hx⟩ := Option.bind_eq_some_iff.mp hx
  obtain ⟨z, hx', e⟩ := Option.map_eq_some_iff.mp hx
  injection e with e1 e2
  subst e1 e2
  obtain ⟨_, h2, h3⟩ := rngO_some hx'
  refine h n w2 hn B F0 σ H vs ds _ s fun v H1 s1 => ?_
  refine ⟨n, by rw [s1.isInt], (bigI_iff h2).1, (bigI_iff h2).2, k _ H1 [] [] rfl (fun z => by cases z) s1.pop (walk_rng ?_)⟩
  rw [h3]
  unfold rng
  rw [Int.sub_zero]
theorem s_foldM {T : Type} {vw : Vw T} {tg iter : Expr} {body : List Stmt} {PL : Ow → Prop} {lim : Bool} {en : α → Sl} {Lf : W → Ow} {w : W} {o : Option (List α × W)} {g : T → α → Option T} {ρb : T → α → Env} {s0 : W → T} {bs : List Bool} {M1 : W → Ow} {M2 : Ow} (hp : PassesOwn (model X.prog X.w) X.A X.env X.xe) (hc : X.calm = true)
    (hi : IM X tg iter ρ Lf w PL lim en o) (hg : ∀ s x, GX X tg (vw s).1 (vw s).2 (en x) (ρb s x)) (hb : ∀ s x, BX X body (ρb s x) (vw s).2 (g s x) (ocn vw)) (hPL : ∀ s, PL (vw s).2) (h0 : ∀ w, vw (s0 w) = (mask bs ρ, M1 w)) (hL : ∀ w, Lf w = M1 w ++ M2 := by intro _; rfl)
    (hs : ∀ x, foldedSetIterable iter X.env x = pure x := by intro _; rfl) :
    SX X (.For tg iter body [] pos) ρ (Lf w) (o.bind fun q => foldO g q.1 (s0 q.2)) (ocn vw) := by
  obtain ⟨wi, pi, hi⟩ := hi
  obtain ⟨gg, pg, hg⟩ := GX.all (S := T × α) (ρf := fun q => (vw q.1).1) (Lf := fun q => (vw q.1).2) (sf := fun q => en q.2) (ρf' := fun q => ρb q.1 q.2) fun q => hg q.1 q.2
  obtain ⟨tb, pb, hb⟩ := BX.all (S := T × α) (ρf := fun q => ρb q.1 q.2) (Lf := fun q => (vw q.1).2) (k := fun q => g q.1 q.2) fun q => hb q.1 q.2
  refine ⟨_, ps_for hp hc pi pg pb hs, fun b hm B F0 σ H vs ds D s gd => ?_⟩
  obtain ⟨⟨xs, w2⟩, hx, hm⟩ := Option.bind_eq_some_iff.mp hm
  refine hi xs w2 hx B F0 σ H vs ds _ s fun J H1 pv pd hl _ s1 w => ?_
  refine ⟨fun i m σ H => m = xs.length - i ∧ i ≤ xs.length ∧ ∃ t, foldO g (xs.drop i) t = some b ∧ St X.K B F0 (vw t).1 (vw t).2 σ H (pv ++ vs) (pd ++ ds), ⟨_, rfl, Nat.zero_le _, s0 w2, hm, ?_⟩, ?_⟩
  · rw [h0]
    rw [hL] at s1
    exact (s1.mask bs).part
  rintro i m σ2 H2 ⟨rfl, hi2, t, ht, s2⟩
  obtain ⟨w1, w2⟩ := w B F0 _ _ σ2 H2 vs ds i (hPL t) s2
  by_cases hlt : i < xs.length
  · obtain ⟨go, yl⟩ := w2 xs[i] (List.getElem?_eq_getElem hlt)
    rw [List.drop_eq_getElem_cons hlt] at ht
    obtain ⟨r, hr, ht⟩ := Option.bind_eq_some_iff.mp ht
    refine .inr ⟨go, fun σ' H' => ∃ t', foldO g (xs.drop (i + 1)) t' = some b ∧ St X.K B F0 (vw t').1 (vw t').2 σ' H' (pv ++ vs) (pd ++ ds), fun σ' H' q => ⟨xs.length - (i + 1), by omega, rfl, hlt, q⟩, fun y H' hy => ?_⟩
    refine hg (t, xs[i]) B F0 σ2 H' y _ _ _ (yl y H' hy) fun σ3 H3 s3 => ?_
    exact hb (t, xs[i]) r hr B F0 σ3 H3 _ _ _ s3 fun σ' H' q => ⟨r, ht, q⟩
  · have e : i = xs.length := by omega
    have e2 : xs.drop i = [] := by rw [e]; exact List.drop_length
    rw [e2] at ht
    have e3 : t = b := by simpa [foldO] using ht
    subst e3
    exact .inl ⟨w1 e, gd σ2 H2 (s2.stack fun F r => (pr_split hl r).2)⟩
end
end Mir
namespace Mir
open PySem L2

/-! ### a def's parameters, one by one -/
def enc0 (_ : Unit) : List Sl := []
def encC {α β : Type} (d : α → PyData) (enc : β → List Sl) (p : α × β) : List Sl := .dat (d p.1) :: enc p.2
def encS {β : Type} (sl : Sl) (enc : β → List Sl) (p : β) : List Sl := sl :: enc p
section
variable {X : Cx} {α β γ δ S W : Type} {e a b c i : Expr} {es : List Expr} {ρ ρ' : Env} {L : Ow} {p pos p2 px apos cpos : Pos} {d : α → PyData} {d' : β → PyData} {f : γ → PyData} {oa : Option α} {ob : Option β} {x y : Str} {sts rest A A' : List Stmt} {oc : δ → Oc}
theorem a_0 : AX X enc0 [] ρ L (some ()) := a_nil
theorem a_C {enc : β → List Sl} (ha : EX X d e ρ L oa) (hr : AX X enc es ρ L ob) (hs : starEach (e :: es) X.env = (false, eval e X.env) :: starEach es X.env := by rfl) : AX X (encC d enc) (e :: es) ρ L (oa.bind fun x => ob.bind fun y => some (x, y)) := a_cons ha hr hs
theorem a_S {enc : β → List Sl} {sl : Sl} (ha : ES X e ρ L (some sl)) (hr : AX X enc es ρ L ob) (hs : starEach (e :: es) X.env = (false, eval e X.env) :: starEach es X.env := by rfl) : AX X (encS sl enc) (e :: es) ρ L ob := a_sl ha hr hs
theorem am_0 {Lf : W → Ow} {w : W} : AM X enc0 [] ρ Lf w (some ((), w)) := am_nil
theorem am_C {Lf : W → Ow} {w : W} {enc : β → List Sl} {ma : Option (α × W)} {mb : α → W → Option (β × W)} (ha : EM X d e ρ Lf w ma) (hr : ∀ x w1, AM X enc es ρ Lf w1 (mb x w1)) (hs : starEach (e :: es) X.env = (false, eval e X.env) :: starEach es X.env := by rfl) :
    AM X (encC d enc) (e :: es) ρ Lf w (ma.bind fun x => (mb x.1 x.2).bind fun y => some ((x.1, y.1), y.2)) := am_cons ha hr hs
theorem am_S {Lf : W → Ow} {w : W} {enc : β → List Sl} {sl : Sl} {mb : Option (β × W)} (ha : ES X e ρ (Lf w) (some sl)) (hr : AM X enc es ρ Lf w mb) (hs : starEach (e :: es) X.env = (false, eval e X.env) :: starEach es X.env := by rfl) :
    AM X (encS sl enc) (e :: es) ρ Lf w mb := am_sl ha hr hs

/-! ### by values that are there -/
theorem x_andP {u v : Bool} (h : EX X dB a ρ L (some u)) (h' : EX X dB (.BoolOp .And (b :: es) pos) ρ L (some v)) : EX X dB (.BoolOp .And (a :: b :: es) pos) ρ L (some (u && v)) := (x_and h h').conv (by cases u <;> rfl)
theorem x_orP {u v : Bool} (h : EX X dB a ρ L (some u)) (h' : EX X dB (.BoolOp .Or (b :: es) pos) ρ L (some v)) : EX X dB (.BoolOp .Or (a :: b :: es) pos) ρ L (some (u || v)) := (x_or h h').conv (by cases u <;> rfl)
theorem WX.conv {o o' : Option Bool} (h : WX X e ρ L o) (q : o = o') : WX X e ρ L o' := q ▸ h
theorem w_andP {u v : Bool} (h : TX X a ρ L (some u)) (h' : WX X (.BoolOp .And (b :: es) pos) ρ L (some v)) : WX X (.BoolOp .And (a :: b :: es) pos) ρ L (some (u && v)) := (w_and h h').conv (by cases u <;> rfl)
theorem w_orP {u v : Bool} (h : TX X a ρ L (some u)) (h' : WX X (.BoolOp .Or (b :: es) pos) ρ L (some v)) : WX X (.BoolOp .Or (a :: b :: es) pos) ρ L (some (u || v)) := (w_or h h').conv (by cases u <;> rfl)
theorem x_ifP {k : Bool} {u v : α} (hc : TX X c ρ L (some k)) (ha : EX X d a ρ L (some u)) (hb : EX X d b ρ L (some v)) : EX X d (.IfExp c a b pos) ρ L (some (if k then u else v)) := (x_if hc ha hb).conv (by cases k <;> rfl)
theorem s_ifP {k : Bool} {u v : δ} (hc : TX X c ρ L (some k)) (h : BX X A ρ L (some u) oc) (h' : BX X A' ρ L (some v) oc) : SX X (.If c A A' pos) ρ L (some (if k then u else v)) oc := (s_if hc h h').conv (by cases k <;> rfl)
/-- if c: .. that returns; the rest: in a def's own block -/
theorem b_ifF {R : Type} {rd : Rd R} {o : Option Bool} {m k : Option R} (hc : TX X c ρ L o) (h : BX X A ρ L m (ocr rd)) (hr : BX X rest ρ L k (ocr rd)) : BX X (.If c A [] pos :: rest) ρ L (o.bind fun q => if q then m else k) (ocr rd) := by
  refine (b_ifret (rd := rd) id hc h hr).conv ?_
  cases o with
  | none => rfl
  | some q => cases q <;> cases m <;> rfl
theorem EX.dd {o : Option α} (h : EX X d e ρ L o) : EX X dD e ρ L (o.map d) := h.re fun _ => rfl

/-! ### in a world that turns -/
theorem s_asgM {Lf : W → Ow} {w : W} {o : Option (α × W)} {tg : Expr} {ρf : α → Env} (h : EM X d e ρ Lf w o) (hg : ∀ a w, GX X tg ρ (Lf w) (.dat (d a)) (ρf a)) (hs : swapsWithSole [tg] e pos.line X.env = pure false := by rfl) (hw : swappedStores [tg] e X.env = pure none := by rfl)
    (h1 : (assignEach [tg] X.env).map (·.2) = [assign tg X.env] := by rfl) : SX X (.Assign [tg] e pos) ρ (Lf w) o (ocn fun a => (ρf a.1, Lf a.2)) := by
  obtain ⟨t, p, h⟩ := h
  obtain ⟨g, p', hg⟩ := GX.all (S := α × W) (ρf := fun _ => ρ) (Lf := fun q => Lf q.2) (sf := fun q => .dat (d q.1)) (ρf' := fun q => ρf q.1) fun q => hg q.1 q.2
  exact ⟨_, ps_asg p p' hs hw h1, fun a ha B F0 σ H vs ds D s q => h a.1 a.2 ha B F0 σ H vs ds _ s fun v H1 s1 => hg a B F0 σ H1 v vs ds _ s1 q⟩
theorem s_exprM {Lf : W → Ow} {w : W} {o : Option (α × W)} (h : EM X d e ρ Lf w o) (hs : swapsWith e none pos.line X.env = pure false := by rfl) : SX X (.Expr e pos) ρ (Lf w) o (ocn fun a => (ρ, Lf a.2)) := by
  obtain ⟨t, p, h⟩ := h
  exact ⟨_, ps_expr p hs, fun a ha B F0 σ H vs ds D s q => h a.1 a.2 ha B F0 σ H vs ds _ s fun v H1 s1 => q _ _ s1.pop⟩
theorem EM.re {Lf : W → Ow} {w : W} {d' : β → PyData} {o : Option (α × W)} {g : α → β} (h : EM X d e ρ Lf w o) (q : ∀ a, d' (g a) = d a) : EM X d' e ρ Lf w (o.map fun r => (g r.1, r.2)) := by
  obtain ⟨t, p, h⟩ := h
  refine ⟨t, p, fun b w' hb B F0 σ H vs ds Q s k => ?_⟩
  obtain ⟨⟨a, w1⟩, ha, e⟩ := Option.map_eq_some_iff.mp hb
  injection e with e1 e2
  subst e1 e2
  exact h a _ ha B F0 σ H vs ds Q s fun v H' s' => k v H' (by rw [q]; exact s')
theorem EM.dd {Lf : W → Ow} {w : W} {o : Option (α × W)} (h : EM X d e ρ Lf w o) : EM X dD e ρ Lf w (o.map fun r => (d r.1, r.2)) := h.re fun _ => rfl
theorem TM.all {Lf : W → Ow} {ρf : S → Env} {wf : S → W} {k : S → Option (Bool × W)} (h : ∀ s, TM X e (ρf s) Lf (wf s) (k s)) :
    ∃ t, PT X e t ∧ ∀ s b w', k s = some (b, w') → ∀ B F0 σ H vs ds Q, St X.K B F0 (ρf s) (Lf (wf s)) σ H vs ds → (∀ H', St X.K B F0 (ρf s) (Lf w') σ H' vs ds → Q b H') → t σ H Q := by
  refine ⟨fun σ H Q => ∃ s b w' B F0 vs ds, k s = some (b, w') ∧ St X.K B F0 (ρf s) (Lf (wf s)) σ H vs ds ∧ ∀ H', St X.K B F0 (ρf s) (Lf w') σ H' vs ds → Q b H', ⟨fun pins s σ H Q I h2 => ?_⟩, fun s b w' e B F0 σ H vs ds Q q g => ⟨s, b, w', B, F0, vs, ds, e, q, g⟩⟩
  obtain ⟨s', b, w', B, F0, vs, ds, e, q, g⟩ := h2
  obtain ⟨t, p, h⟩ := h s'
  exact p.run pins s σ H Q I (h b w' e B F0 σ H vs ds Q q g)
/-- if c: .. that returns; the rest -/
theorem b_ifretM {R : Type} {rd : Rd R} {Lf : W → Ow} {w : W} {o : Option (Bool × W)} {m : W → Option R} {k : W → Option δ} (ret : R → δ) (hc : TM X c ρ Lf w o) (h : ∀ w, BX X A ρ (Lf w) (m w) (ocr rd)) (hr : ∀ w, BX X rest ρ (Lf w) (k w) oc) (hret : ∀ r, oc (ret r) = .rt (rd r).1 (rd r).2 := by intro _; rfl) : BX X (.If c A [] pos :: rest) ρ (Lf w) (o.bind fun q => if q.1 then (m q.2).map ret else k q.2) oc := by
  obtain ⟨t, p, hc⟩ := hc
  obtain ⟨t1, p1, h⟩ := BX.all h
  obtain ⟨t2, p2, hr⟩ := BX.all hr
  refine ⟨_, pss_cons (ps_if p p1 pss_nil) p2, fun b hb B F0 σ H vs ds D s g => ?_⟩
  obtain ⟨⟨q, w1⟩, hq, hb⟩ := Option.bind_eq_some_iff.mp hb
  refine hc q w1 hq B F0 σ H vs ds _ s fun H1 s1 => ?_
  cases q with
  | true =>
    obtain ⟨r, hm, rfl⟩ := Option.map_eq_some_iff.mp (show (m w1).map ret = some b by simpa using hb)
    rw [hret] at g
    exact iteT (h w1 r hm B F0 σ H1 vs ds _ s1 g)
  | false => exact iteF (hr w1 b (by simpa using hb) B F0 σ H1 vs ds D s1 g)
/-- a list written of what turns the world -/
def MH (X : Cx) {α W : Type} (d : α → PyData) (es : List Expr) (ρ : Env) (Lf : W → Ow) (w : W) (o : Option (List α × W)) : Prop := AM X (encH d) es ρ Lf w o ∧ ∀ xs w', o = some (xs, w') → xs.length = es.length
theorem mh_nil {Lf : W → Ow} {w : W} : MH X d [] ρ Lf w (some ([], w)) := ⟨ah_nil.m (Lf := Lf), fun xs w' h => by cases h; rfl⟩
theorem mh_cons {Lf : W → Ow} {w : W} {ma : Option (α × W)} {mb : α → W → Option (List α × W)} (ha : EM X d e ρ Lf w ma) (hr : ∀ x w1, MH X d es ρ Lf w1 (mb x w1)) (hs : starEach (e :: es) X.env = (false, eval e X.env) :: starEach es X.env := by rfl) :
    MH X d (e :: es) ρ Lf w (ma.bind fun x => (mb x.1 x.2).bind fun y => some (x.1 :: y.1, y.2)) := by
  refine ⟨?_, fun xs w' h => ?_⟩
  · obtain ⟨t, p, h⟩ := ha
    obtain ⟨t', p', h'⟩ : ∃ tb, PA X es tb ∧ ∀ x w1, ∀ a w', mb x w1 = some (a, w') → ∀ B F0 σ H vs ds Q, St X.K B F0 ρ (Lf w1) σ H vs ds → (∀ us H', us.length = (encH d a).length → St X.K B F0 ρ (Lf w') σ H' (us ++ vs) (encH d a ++ ds) → Q us H') → tb σ H Q := by
      refine ⟨fun σ H Q => ∃ x w1 a w' B F0 vs ds, mb x w1 = some (a, w') ∧ St X.K B F0 ρ (Lf w1) σ H vs ds ∧ ∀ us H', us.length = (encH d a).length → St X.K B F0 ρ (Lf w') σ H' (us ++ vs) (encH d a ++ ds) → Q us H', ⟨fun pos pins s σ H Q I h => ?_⟩, fun x w1 a w' e B F0 σ H vs ds Q s k => ⟨x, w1, a, w', B, F0, vs, ds, e, s, k⟩⟩
      obtain ⟨x, w1, a, w', B, F0, vs, ds, e, st, k⟩ := h
      obtain ⟨tb, pb, hb⟩ := (hr x w1).1
      exact pb.run pos pins s σ H Q I (hb a w' e B F0 σ H vs ds Q st k)
    refine ⟨_, pa_cons p p' hs, fun z w3 hz B F0 σ H vs ds Q s k => ?_⟩
    obtain ⟨⟨x, w1⟩, hx, hz⟩ := Option.bind_eq_some_iff.mp hz
    obtain ⟨⟨y, w2⟩, hy, hz⟩ := Option.bind_eq_some_iff.mp hz
    cases hz
    refine h x w1 hx B F0 σ H vs ds _ s fun v H1 s1 => h' x w1 y w2 hy B F0 σ H1 _ _ _ s1 fun us H2 e2 s2 => ?_
    exact k (v :: us) H2 (by simp [encH, e2]) (s2.args e2)
  · obtain ⟨⟨x, w1⟩, hx, hz⟩ := Option.bind_eq_some_iff.mp h
    obtain ⟨⟨y, w2⟩, hy, hz⟩ := Option.bind_eq_some_iff.mp hz
    cases hz
    rw [List.length_cons, List.length_cons, (hr x w1).2 y w2 hy]
theorem m_lh {Lf : W → Ow} {w : W} {o : Option (List α × W)} (h : MH X d es ρ Lf w o) (hz : es.length ≤ 1000 := by exact Nat.le_of_ble_eq_true rfl) : EM X (dL d) (.List es pos) ρ Lf w o := by
  obtain ⟨⟨t, p, h⟩, hl⟩ := h
  refine ⟨_, pe_lst p, fun xs w' hx B F0 σ H vs ds Q s k => h xs w' hx B F0 σ H vs ds _ s fun us H1 e s1 => ?_⟩
  have e' : us.length = (xs.map d).length := by rw [e]; unfold encH; rw [List.length_map]
  have l1 := hl xs w' hx
  have sz : us.length ≤ sizeLine := by rw [e', List.length_map, l1]; exact sz_of hz
  refine ⟨sz, fun p hp => k _ _ ?_⟩
  have s2 := St.frz (L2 := []) (St.newLst (xs := (xs.map d).map .dat) s1 e hp sz)
  rw [List.append_nil] at s2
  exact s2
end
end Mir
namespace Mir
open PySem L2

section
variable {X : Cx} {α β γ δ S W : Type} {e a b c i o : Expr} {es : List Expr} {ρ ρ' : Env} {L : Ow} {p pos p2 px apos cpos : Pos} {d : α → PyData} {d' : β → PyData} {f : γ → PyData} {oa : Option α} {ob : Option β} {x y : Str} {sts rest A A' : List Stmt} {oc : δ → Oc} {j : Nat}
theorem x_chainP {op op' : CmpOp} {r r' : R2} {g : α → β → Bool} {g' : β → γ → Bool} {u : α} {v : β} {z : γ} (ho : OpR X (compareOp op) r) (ho' : OpR X (compareOp op') r') (hg : Op2 X.K r d d' dB (fun a b => some (g a b))) (hg' : Op2 X.K r' d' f dB (fun a b => some (g' a b)))
    (ha : EX X d a ρ L (some u)) (hb : EX X d' b ρ L (some v)) (hc : EX X f c ρ L (some z)) (p : OpR X (compareOp op) r → OpR X (compareOp op') r' → ∀ {ta tb tc}, PE X a ta → PE X b tb → PE X c tc → PE X (.Compare a [op, op'] [b, c] pos) (tChain r r' ta tb tc) := by intro ho ho' _ _ _ h1 h2 h3; exact pe_chain ho ho' h1 h2 h3) : EX X dB (.Compare a [op, op'] [b, c] pos) ρ L (some (g u v && g' v z)) :=
  (x_chain ho ho' hg hg' ha hb hc p).conv (by cases h : g u v <;> simp [h])

/-! ### all, any of a list of bools -/
theorem bools_sv {K : PySem.W.Frag} {F : Hp} : ∀ {us : List V} {ns : List Bool}, Paired (SvR K F) us ((ns.map dB).map .dat) → us = ns.map V.bl
  | _, [], h => by cases h; rfl
  | _, n :: ns, h => by
    cases h with
    | cons r t =>
      have r' : Rp F _ (.bool n) := r
      cases r'
      rw [List.map_cons, bools_sv t]
theorem St.lstBools {K : PySem.W.Frag} {B F0 H : Hp} {σ : L2.St} {vs : List V} {ds : List Sl} {v : V} {s : Sl} {xs : List Bool} (q : LstOf L s (xs.map dB)) (h : St K B F0 ρ L σ H (v :: vs) (s :: ds)) : ∃ a, v = .ref a ∧ H a = some (.lst (xs.map V.bl)) := by
  obtain ⟨a, us, e, h1, h2, _, h3⟩ := h.lstOf q
  obtain ⟨F, k, _, b⟩ := h3
  obtain ⟨b1, _⟩ := pr_split (by rw [List.length_map]; exact h2) b
  rw [bools_sv b1] at h1
  exact ⟨a, e, h1⟩
theorem x_all {o : Option (List Bool)} (hc : X.calm = true) (h : QL X dB e ρ L o) (hm : X.mg "all" = none) (hs : starEach [e] X.env = (false, eval e X.env) :: starEach [] X.env := by rfl)
    (hh : X.mg "all" = none → ∀ {ta}, PE X e ta → PE X (.Call (.Name "all" p) [e] [] pos) (tCB (rAll X.K) (tCons ta tNil)) := by intro hm _ h; exact pe_callB (cr_all rfl) (by rfl) hm (by decide +kernel) (pa_cons h pa_nil)) :
    EX X dB (.Call (.Name "all" p) [e] [] pos) ρ L (o.map fun xs => xs.all id) := by
  obtain ⟨t, p, h⟩ := h
  refine ⟨_, hh hm p, fun z hz B F0 σ H vs ds Q s k => ?_⟩
  obtain ⟨xs, hx, rfl⟩ := Option.map_eq_some_iff.mp hz
  refine h xs hx B F0 σ H vs ds _ s fun v sl H1 q s1 => ?_
  obtain ⟨a, rfl, h1⟩ := s1.lstBools q
  exact ⟨a, xs, rfl, SqL.of h1, k _ _ s1.pop.bl⟩
theorem x_any {o : Option (List Bool)} (hc : X.calm = true) (h : QL X dB e ρ L o) (hm : X.mg "any" = none) (hs : starEach [e] X.env = (false, eval e X.env) :: starEach [] X.env := by rfl)
    (hh : X.mg "any" = none → ∀ {ta}, PE X e ta → PE X (.Call (.Name "any" p) [e] [] pos) (tCB (rAny X.K) (tCons ta tNil)) := by intro hm _ h; exact pe_callB (cr_any rfl) (by rfl) hm (by decide +kernel) (pa_cons h pa_nil)) :
    EX X dB (.Call (.Name "any" p) [e] [] pos) ρ L (o.map fun xs => xs.any id) := by
  obtain ⟨t, p, h⟩ := h
  refine ⟨_, hh hm p, fun z hz B F0 σ H vs ds Q s k => ?_⟩
  obtain ⟨xs, hx, rfl⟩ := Option.map_eq_some_iff.mp hz
  refine h xs hx B F0 σ H vs ds _ s fun v sl H1 q s1 => ?_
  obtain ⟨a, rfl, h1⟩ := s1.lstBools q
  exact ⟨a, xs, rfl, SqL.of h1, k _ _ s1.pop.bl⟩

/-! ### xs[::-1] -/
theorem n_revs {o : Option (List α)} {k : Nat} {p1 p2 p3 : Pos} (h : QL X d e ρ L o) : EN X d (.Subscript e (.Slice none none (some (.UnaryOp .USub (.Constant (.int 1) k p1) p2)) p3) pos) ρ L (o.map List.reverse) := by
  obtain ⟨t, p, h⟩ := h
  refine ⟨_, pe_revL p, fun z hz B F0 σ H vs ds Q s k => ?_⟩
  obtain ⟨xs, hx, rfl⟩ := Option.map_eq_some_iff.mp hz
  refine h xs hx B F0 σ H vs ds _ s fun v sl H1 q s1 => ?_
  obtain ⟨a, us, rfl, h1, h2, h4, h3⟩ := s1.lstOf q
  refine ⟨a, us, rfl, SqL.of h1, fun p hp => k p _ ?_⟩
  refine St.newLst (us := us.reverse) ?_ (by rw [List.length_reverse, h2]; simp) hp (by rw [List.length_reverse]; exact h4)
  refine h3.stack fun F r => ?_
  obtain ⟨r1, r2⟩ := pr_split (by rw [List.length_map]; exact h2) r
  rw [List.map_reverse, List.map_reverse]
  exact pr_app (pr_rev r1) (by cases r2 with | cons _ t => exact t)
end

/-! t[::-1] of a tuple -/
theorem sliceApplied_rev {prog : Program} {w : World} {A : Around} {E : Value → Shared → Prop} {s : Shared} {sl : Addr} {vl vu vs : Value} {n : Nat} {Q : Int × Int × Nat → Shared → Prop} (hs : s.heap.IsSliceOf sl vl vu vs) (pl : PySem.IsPart vl none) (pu : PySem.IsPart vu none) (ps : PySem.IsPart vs (some (-1)))
    (h : Q ((n : Int) - 1, -1, n) s) : wpAny (model prog w) A (Builtin.Slice.sliceApplied (.ref sl) (pure (n : Int))) Q E s := by
  obtain ⟨os, hos, hcs, hds⟩ := id hs
  unfold Builtin.Slice.sliceApplied Builtin.Slice.sliceFields
  refine wpAny_bind (wpAny_bind (wpAny_field hos hds (x := vl) rfl (wpAny_bind (wpAny_field hos hds (x := vu) rfl (wpAny_bind (wpAny_field hos hds (x := vs) rfl (wpAny_pure ?_)))))))
  refine wpAny_bind (HT.slicePart_ ps ?_)
  show wpAny _ _ (if ((-1 : Int) == 0) = true then _ else _) _ _ s
  rw [if_neg (by decide)]
  refine wpAny_bind (HT.slicePart_ pl (wpAny_bind (HT.slicePart_ pu (wpAny_bind (wpAny_pure ?_)))))
  show wpAny _ _ (match Builtin.Slice.sliceAdjust none none (-1) (n : Int) with | (lo, hi) => pure (lo, (-1 : Int), Builtin.Slice.slicePlaces lo hi (-1))) _ _ s
  have e1 : Builtin.Slice.sliceAdjust none none (-1) (n : Int) = ((n : Int) - 1, -1) := by
    unfold Builtin.Slice.sliceAdjust
    simp
  have e2 : Builtin.Slice.slicePlaces ((n : Int) - 1) (-1) (-1) = n := by
    unfold Builtin.Slice.slicePlaces
    simp only [show ¬ ((-1 : Int) > 0) by omega, if_false]
    split <;> simp <;> omega
  rw [e1]
  show wpAny _ _ (pure ((n : Int) - 1, (-1 : Int), Builtin.Slice.slicePlaces ((n : Int) - 1) (-1) (-1))) _ _ s
  rw [e2]
  exact wpAny_pure h

theorem fm_congr {τ υ : Type} {f g : τ → Option υ} : ∀ {xs : List τ}, (∀ x ∈ xs, f x = g x) → xs.filterMap f = xs.filterMap g
  | [], _ => rfl
  | x :: xs, h => by
    rw [List.filterMap_cons, List.filterMap_cons, h x List.mem_cons_self, fm_congr fun y hy => h y (List.mem_cons_of_mem _ hy)]
theorem pick_rev (xs : Array Value) : ((List.range xs.size).filterMap fun (m : Nat) => xs[((xs.size : Int) - 1 + (m : Int) * (-1)).toNat]?).toArray = xs.toList.reverse.toArray := by
  congr 1
  apply List.ext_getElem?
  have e : ∀ m, m < xs.size → xs[((xs.size : Int) - 1 + (m : Int) * (-1)).toNat]? = xs[xs.size - 1 - m]? := fun m _ => by
    have : ((xs.size : Int) - 1 + (m : Int) * (-1)).toNat = xs.size - 1 - m := by omega
    rw [this]
  have e2 : ((List.range xs.size).filterMap fun (m : Nat) => xs[((xs.size : Int) - 1 + (m : Int) * (-1)).toNat]?) = xs.toList.reverse := by
    rw [← PySem.W.krv_all xs, ← List.filterMap_reverse, ← PySem.W.krv_range, List.filterMap_map]
    refine fm_congr fun m hm => ?_
    exact e m (List.mem_range.mp hm)
  intro j
  rw [e2]
section
variable {prog : Program} {w : World} {A : Around} {E : Value → Shared → Prop} {s : Shared}
open PyProof.Rows in
theorem getItem_tuple_rev {t sl : Addr} {items : Array Value} {vl vu vs : Value} {Q : Value → Shared → Prop} (ht : IsTup s.heap t items) (hs : s.heap.IsSliceOf sl vl vu vs) (pl : PySem.IsPart vl none) (pu : PySem.IsPart vu none) (ps : PySem.IsPart vs (some (-1)))
    (h : Q (.ref s.heap.objs.size) { s with heap := s.heap.push { cls := .type "tuple", data := .seq items.toList.reverse.toArray } })
    (hsz : items.size ≤ sizeLine) : wpAny (model prog w) A (getItem (.ref t) (.ref sl)) Q E s := by
  have htake : sizeOk (.seq items.toList.reverse.toArray) := by
    show items.toList.reverse.toArray.size ≤ sizeLine
    rw [List.size_toArray, List.length_reverse, Array.length_toList]
    exact hsz
  obtain ⟨os, hos, hcs, hds⟩ := id hs
  have hTs : s.TypeIs (.ref sl) "slice" := ⟨os, hos, hcs⟩
  unfold getItem
  try with_reducible refine wpAny_holding ?_
  first | refine wpAny_bind (wpAny_pure ?_) | skip
  refine wpAny_bind (wpAny_sequenceKey ht.typeIs (by decide) ?_)
  refine wpAny_bind (wpAny_callSpecial?_slot (name := Str.ofString "__getitem__") ht.typeIs PyProof.Rows.slot_tuple_getitem
    (wpAny_call_entry PyProof.Rows.slot_tuple_getitem ht.typeIs entry_tuple_getitem ?_ (args_tuple_getitem _ _)))
  show wpAny _ _ (Builtin.Tuple.tupleItemsOf (.ref t) >>= _) _ _ s
  refine wpAny_bind (tupleItemsOf_ ht ?_)
  refine wpAny_bind (wpAny_typeOf hTs ?_)
  rw [if_pos (by decide)]
  refine wpAny_bind (sliceApplied_rev hs pl pu ps ?_)
  have hno : ¬ ((((items.size : Int) - 1) == 0 && (-1 : Int) == 1 && items.size == items.size) = true) := by
    intro q
    rw [Bool.and_eq_true, Bool.and_eq_true] at q
    exact absurd q.1.2 (by decide)
  show wpAny _ _ (if ((((items.size : Int) - 1) == 0 && (-1 : Int) == 1 && items.size == items.size) = true) then _ else _) _ _ s
  rw [if_neg hno, pick_rev]
  first
    | exact wpAny_bind (m := Builtin.Tuple.tupleExact _) (wpAny_newObj_type (wpAny_pure ⟨_, rfl, wpAny_pure h⟩) htake)
    | exact wpAny_bind (m := Builtin.Tuple.tupleExact _) (wpAny_newObj_type (wpAny_bind (wpAny_pure (wpAny_pure ⟨_, rfl, wpAny_pure h⟩))) htake)
    | exact wpAny_bind (wpAny_bind (m := Builtin.Tuple.tupleExact _) (wpAny_newObj_type (wpAny_pure (wpAny_pure ⟨_, rfl, wpAny_pure h⟩)) htake))
    | exact wpAny_bind (wpAny_bind (m := Builtin.Tuple.tupleExact _) (wpAny_newObj_type (wpAny_pure ⟨_, rfl, wpAny_pure h⟩) htake))
end
open PySem.Spec PyProof.Rows in
def tRevT (K : PySem.W.Frag) (te : TE) : TE := fun σ H Q => te σ H fun x H1 => ∃ a xs, x = .ref a ∧ SqT K H1 a xs ∧ ∀ p, H1 p = none → Q (.ref p) (upd H1 p (.tup xs.reverse))
open PySem.Spec PyProof.Rows in
theorem pe_revT {X : Cx} {e : Expr} {te : TE} {k : Nat} {p1 p2 p3 pos : Pos} (he : PE X e te) : PE X (.Subscript e (.Slice none none (some (.UnaryOp .USub (.Constant (.int 1) k p1) p2)) p3) pos) (tRevT X.K te) := by
  refine ⟨fun pins s σ H Q I h => ?_⟩
  refine Subscript_ (thn (he.run pins s σ H _ I h) fun v s1 ⟨x, H1, I1, r1, q1⟩ => ?_)
  obtain ⟨a, xs, ex, hx, q⟩ := q1
  subst ex
  cases r1
  have hst : PO X (some (.UnaryOp .USub (.Constant (.int 1) k p1) p2)) (tPart (tUn (rU fun i => .int (-i)) (tC (.int 1)))) := po_some (pe_un un_neg pe_int)
  refine wpAny_Slice (thn (po_none.run pins s1 σ H1 (fun o H2 => o = none ∧ H2 = H1) I1 ⟨rfl, rfl⟩) fun vl s2 ⟨l, H2, I2, pl, el, e2⟩ => ?_)
  subst el e2
  refine thn (po_none.run pins s2 σ H2 (fun o H3 => o = none ∧ H3 = H2) I2 ⟨rfl, rfl⟩) fun vu s3 ⟨u, H3, I3, pu, eu, e3⟩ => ?_
  subst eu e3
  refine thn (hst.run pins s3 σ H3 (fun o H4 => o = some (-1) ∧ H4 = H3) I3 ⟨1, rfl, -1, rfl, rfl, rfl⟩) fun vs s4 ⟨o, H4, I4, ps, eo, e4⟩ => ?_
  subst eo e4
  have I5 : Inv X pins σ H4 { s4 with heap := s4.heap.push { cls := .type "slice", data := .fields #[vl, vu, vs] } } := I4.kept (t' := s4.toks) fun b ob q => Heap.get?_push_of_some _ q
  obtain ⟨its, r, ht, hz⟩ := I5.tuple hx
  have hlen := r.length
  show wpAny (model X.prog X.w) X.A (subscriptTail e (.Slice none none (some (.UnaryOp .USub (.Constant (.int 1) k p1) p2)) p3) (.ref a) (.ref s4.heap.objs.size)) (EP X pins σ Q) X.xe { s4 with heap := s4.heap.push { cls := .type "slice", data := .fields #[vl, vu, vs] } }
  refine tail_any (ops := [.ref a, .ref s4.heap.objs.size]) ht.typeIs PyProof.Rows.slot_tuple_getitem.lookup ?_ (by with_unfolding_all rfl)
  refine getItem_tuple_rev ht (Heap.IsSliceOf.new _ vl vu vs) pl pu ps ?_ (by rw [List.size_toArray]; omega)
  refine ⟨.ref _, _, I5.laid (t' := s4.toks) (o := .tup xs.reverse) (fun b ob q => Heap.get?_push_of_some _ q) (Nat.le_refl _) ?_, rfl, q _ (I5.hok.fresh (Nat.le_refl _))⟩
  exact ⟨by rw [List.length_reverse]; exact hz, _, r.reverse, IsTup.new _ _⟩
theorem x_revsT {X : Cx} {α : Type} {e : Expr} {ρ : Env} {L : Ow} {pos : Pos} {d : α → PyData} {o : Option (List α)} {k : Nat} {p1 p2 p3 : Pos} (h : EX X (dT d) e ρ L o) : EX X (dT d) (.Subscript e (.Slice none none (some (.UnaryOp .USub (.Constant (.int 1) k p1) p2)) p3) pos) ρ L (o.map List.reverse) := by
  obtain ⟨t, p, h⟩ := h
  refine ⟨_, pe_revT p, fun z hz B F0 σ H vs ds Q s k => ?_⟩
  obtain ⟨xs, hx, rfl⟩ := Option.map_eq_some_iff.mp hz
  refine h xs hx B F0 σ H vs ds _ s fun v H1 s1 => ?_
  obtain ⟨a, us, rfl, h1, h2, h4, h3⟩ := s1.tup1
  refine ⟨a, us, rfl, SqT.of h1, fun p hp => k _ _ ?_⟩
  refine St.newTup (us := us.reverse) ?_ (by rw [List.length_reverse, h2]; simp) hp (by rw [List.length_reverse]; exact h4)
  refine h3.stack fun F r => ?_
  obtain ⟨r1, r2⟩ := pr_split (by rw [List.length_map]; exact h2) r
  rw [List.map_reverse, List.map_reverse]
  exact pr_app (pr_rev r1) (by cases r2 with | cons _ t => exact t)
end Mir
namespace Mir
open PySem L2

/-! ### comprehensions of two fors -/
noncomputable def flatO {α β : Type} (k : α → Option (List β)) (xs : List α) : Option (List β) := (mapO k xs).bind fun yss => szO yss.flatten.length yss.flatten
theorem mapO_true {α β : Type} (k : α → Option β) : ∀ xs : List α, filtO (fun _ => some true) k xs = mapO k xs
  | [] => rfl
  | x :: xs => by simp only [filtO, mapO, Option.bind_some, if_true, mapO_true k xs]
theorem mapO_cons {α β : Type} {k : α → Option β} {x : α} {xs : List α} {zs : List β} (h : mapO k (x :: xs) = some zs) : ∃ y ys, k x = some y ∧ mapO k xs = some ys ∧ zs = y :: ys := by
  obtain ⟨y, hy, h⟩ := Option.bind_eq_some_iff.mp h
  obtain ⟨ys, hys, e⟩ := Option.map_eq_some_iff.mp h
  exact ⟨y, ys, hy, hys, e.symm⟩
section
variable {K : PySem.W.Frag} {α β : Type}
theorem in_read {wi : TI} {g : TG} {tt : TT} {te : TE} {ws : List Nat} {ρ : Env} {ρb : α → Env} {L : Ow} {PL : Ow → Prop} {en : α → Sl} {xs : List α} {ys acc0 : List β} {d : β → PyData} {c : α → Option Bool} {k : α → Option β} {D : Addr}
    {B F0 : Hp} {σ : L2.St} {H : Hp} {vs : List V} {ds : List Sl} {Nx : Hp → Prop}
    (hwi : ∀ R : It → Hp → Prop, (∀ J H1 pv pd, pv.length = pd.length → xs.length ≤ sizeLine → St K B F0 ρ (L ++ [(D, .lst ((acc0.map d).map .dat))]) σ H1 (pv ++ vs) (pd ++ ds) → Walk K J pv pd PL en xs → R J H1) → wi σ H R)
    (hPL : ∀ M, PL (L ++ M))
    (hg : ∀ x M σ H v vs ds Q, St K B F0 (wipeE ρ ws) (L ++ M) σ H (v :: vs) (en x :: ds) → (∀ σ' H', wipe σ' ws = wipe σ ws → St K B F0 (ρb x) (L ++ M) σ' H' vs ds → Q σ' H') → g v σ H Q)
    (ht : ∀ x b, c x = some b → ∀ M σ H vs ds Q, St K B F0 (ρb x) (L ++ M) σ H vs ds → (∀ H', St K B F0 (ρb x) (L ++ M) σ H' vs ds → Q b H') → tt σ H Q)
    (he : ∀ x a, k x = some a → ∀ M σ H vs ds Q, St K B F0 (ρb x) (L ++ M) σ H vs ds → (∀ v H', St K B F0 (ρb x) (L ++ M) σ H' (v :: vs) (.dat (d a) :: ds) → Q v H') → te σ H Q)
    (hm : filtO c k xs = some ys) (hS : ∃ F, Paired (SlR K F) σ ρ) (hsz : acc0.length + ys.length ≤ sizeLine)
    (hQ : ∀ H', St K B F0 ρ (L ++ [(D, .lst (((acc0 ++ ys).map d).map .dat))]) σ H' vs ds → Nx H') :
    wi σ H fun J1 H4 => ∃ W1 : Nat → Nat → Hp → Prop, (∃ m, W1 0 m H4) ∧ ∀ j k H, W1 j k H →
      (J1.stop j H ∧ Nx H) ∨ (J1.go j H ∧ ∃ Nx1 : Hp → Prop, (∀ H', Nx1 H' → ∃ k', k' < k ∧ W1 (j + 1) k' H') ∧ ∀ x H', J1.yld j H x H' → g x (wipe σ ws) H' fun σ3 H5 => wipe σ3 ws = wipe σ ws ∧ tt σ3 H5 fun b H6 =>
        if b = true then te σ3 H6 fun y H7 => ∃ acc, H7 D = some (.lst acc) ∧ acc.length < sizeLine ∧ Nx1 (upd H7 D (.lst (acc ++ [y]))) else Nx1 H6) := by
  refine hwi _ fun J H1 pv pd hl hz s1 w => ?_
  refine ⟨fun i m H => m = xs.length - i ∧ i ≤ xs.length ∧ ∃ (acc rest : List β), filtO c k (xs.drop i) = some rest ∧ acc0 ++ ys = acc ++ rest ∧ St K B F0 ρ (L ++ [(D, .lst ((acc.map d).map .dat))]) σ H (pv ++ vs) (pd ++ ds),
    ⟨_, rfl, Nat.zero_le _, acc0, ys, hm, rfl, s1⟩, ?_⟩
  rintro i m H2 ⟨rfl, hi, acc, rest, hr, ey, s2⟩
  obtain ⟨w3, w4⟩ := w B F0 _ _ σ H2 vs ds i (hPL _) s2
  by_cases hlt : i < xs.length
  · obtain ⟨go, yl⟩ := w4 xs[i] (List.getElem?_eq_getElem hlt)
    rw [List.drop_eq_getElem_cons hlt] at hr
    obtain ⟨b, hb, hr⟩ := Option.bind_eq_some_iff.mp hr
    refine .inr ⟨go, fun H => ∃ (acc rest : List β), filtO c k (xs.drop (i + 1)) = some rest ∧ acc0 ++ ys = acc ++ rest ∧ St K B F0 ρ (L ++ [(D, .lst ((acc.map d).map .dat))]) σ H (pv ++ vs) (pd ++ ds),
      fun H' q => ⟨xs.length - (i + 1), by omega, rfl, hlt, q⟩, fun y H' hy => ?_⟩
    have s3 := yl y H' hy
    have s4 : St K B F0 ρ (L ++ [(D, .lst ((acc.map d).map .dat))]) σ H' (y :: (liveV σ ρ ++ (pv ++ vs))) (en xs[i] :: (liveS σ ρ ++ (pd ++ ds))) := by
      obtain ⟨F, k', a, b'⟩ := s3
      cases b' with
      | cons r t => exact ⟨F, k', a, .cons r (pr_app (live_of a) t)⟩
    refine hg xs[i] _ _ H' y _ _ _ (s4.wipe ws) fun σ5 H5 e5 s5 => ⟨?_, ?_⟩
    · rw [e5]
      apply List.ext_getElem?
      intro j
      simp only [wipe_get]
      by_cases hj : j ∈ ws
      · simp only [if_pos hj]
        cases σ[j]? <;> rfl
      · simp only [if_neg hj]
    · refine ht xs[i] b hb _ σ5 H5 _ _ _ s5 fun H6 s6 => ?_
      cases b with
      | false =>
        refine iteF ⟨acc, rest, by simpa using hr, ey, s6.back hS⟩
      | true =>
        rw [if_pos rfl] at hr
        obtain ⟨a, hk, hr⟩ := Option.bind_eq_some_iff.mp hr
        obtain ⟨r2, hr2, er⟩ := Option.map_eq_some_iff.mp hr
        refine iteT (he xs[i] a hk _ σ5 H6 _ _ _ s6 fun v H7 s7 => ?_)
        have m7 : (D, OD.lst ((acc.map d).map .dat)) ∈ L ++ [(D, OD.lst ((acc.map d).map .dat))] := List.mem_append_right _ (by simp)
        obtain ⟨us, h1, h2, _, _⟩ := s7.own1 m7
        have h2' : us.length = acc.length := by rw [h2, List.length_map, List.length_map]
        have hlen : acc.length + (a :: r2).length ≤ sizeLine := by
          have := congrArg List.length ey
          rw [List.length_append, List.length_append] at this
          rw [er, ← this]
          exact hsz
        rw [List.length_cons] at hlen
        refine ⟨us, h1, by omega, acc ++ [a], r2, hr2, ?_, ?_⟩
        · rw [ey, ← er, List.append_assoc]; rfl
        · obtain ⟨F, k', sl, sv⟩ := s7
          cases sv with
          | cons r t =>
            obtain ⟨_, _, us', h1', q⟩ := k'.own _ m7
            have e : us' = us := by
              have e := h1'.symm.trans h1
              injection e with e
              injection e
            subst e
            have k2 := Ok.write (L2 := []) (d' := OD.lst (((acc ++ [a]).map d).map .dat)) (o := .lst (us' ++ [v])) k' (by show (us' ++ [v]).length ≤ sizeLine; rw [List.length_append]; show us'.length + 1 ≤ sizeLine; omega)
              ⟨_, upd_same, by rw [List.map_append, List.map_append]; exact pr_app q (.cons r .nil)⟩
            exact St.back hS ⟨F, k2, sl, t⟩
  · have e : i = xs.length := by omega
    have e2 : xs.drop i = [] := by rw [e]; exact List.drop_length
    rw [e2] at hr
    have e3 : rest = [] := by
      have : ([] : List β) = rest := by simpa [filtO] using hr
      exact this.symm
    subst e3
    rw [List.append_nil] at ey
    refine .inl ⟨w3 e, hQ H2 ?_⟩
    rw [ey]
    exact s2.stack fun F r => (pr_split hl r).2
/-- the outer for -/
theorem lc2_read {γ : Type} {wi wi1 : TI} {g g1 : TG} {tt tt1 : TT} {te : TE} {ws ws1 : List Nat} {ρ : Env} {ρb : α → Env} {ρc : α → γ → Env} {L : Ow} {PL PL1 : Ow → Prop} {en : α → Sl} {en1 : γ → Sl} {xs : List α} {ys : List β} {d : β → PyData} {c0 : α → Option Bool} {o1 : α → Option (List γ)} {c : α → γ → Option Bool} {k : α → γ → Option β}
    {B F0 : Hp} {σ : L2.St} {H : Hp} {vs : List V} {ds : List Sl} {Q : VK}
    (hwi : ∀ R : It → Hp → Prop, (∀ J H1 pv pd, pv.length = pd.length → xs.length ≤ sizeLine → St K B F0 ρ L σ H1 (pv ++ vs) (pd ++ ds) → Walk K J pv pd PL en xs → R J H1) → wi σ H R)
    (hPL : ∀ M, PL (L ++ M)) (hPL1 : ∀ M, PL1 (L ++ M))
    (hg : ∀ x M σ H v vs ds Q, St K B F0 (wipeE ρ ws) (L ++ M) σ H (v :: vs) (en x :: ds) → (∀ σ' H', wipe σ' ws = wipe σ ws → St K B F0 (ρb x) (L ++ M) σ' H' vs ds → Q σ' H') → g v σ H Q)
    (ht0 : ∀ x b, c0 x = some b → ∀ M σ H vs ds Q, St K B F0 (ρb x) (L ++ M) σ H vs ds → (∀ H', St K B F0 (ρb x) (L ++ M) σ H' vs ds → Q b H') → tt σ H Q)
    (hwi1 : ∀ x zs, o1 x = some zs → ∀ M σ H vs ds, St K B F0 (ρb x) (L ++ M) σ H vs ds → ∀ R : It → Hp → Prop, (∀ J H1 pv pd, pv.length = pd.length → zs.length ≤ sizeLine → St K B F0 (ρb x) (L ++ M) σ H1 (pv ++ vs) (pd ++ ds) → Walk K J pv pd PL1 en1 zs → R J H1) → wi1 σ H R)
    (hg1 : ∀ x z M σ H v vs ds Q, St K B F0 (wipeE (ρb x) ws1) (L ++ M) σ H (v :: vs) (en1 z :: ds) → (∀ σ' H', wipe σ' ws1 = wipe σ ws1 → St K B F0 (ρc x z) (L ++ M) σ' H' vs ds → Q σ' H') → g1 v σ H Q)
    (ht : ∀ x z b, c x z = some b → ∀ M σ H vs ds Q, St K B F0 (ρc x z) (L ++ M) σ H vs ds → (∀ H', St K B F0 (ρc x z) (L ++ M) σ H' vs ds → Q b H') → tt1 σ H Q)
    (he : ∀ x z a, k x z = some a → ∀ M σ H vs ds Q, St K B F0 (ρc x z) (L ++ M) σ H vs ds → (∀ v H', St K B F0 (ρc x z) (L ++ M) σ H' (v :: vs) (.dat (d a) :: ds) → Q v H') → te σ H Q)
    (hm : flatO (fun x => (c0 x).bind fun b => if b then (o1 x).bind fun zs => filtO (c x) (k x) zs else some []) xs = some ys) (hS : ∃ F, Paired (SlR K F) σ ρ)
    (hQ : ∀ D H', St K B F0 ρ (L ++ [(D, .lst ((ys.map d).map .dat))]) σ H' (.ref D :: vs) (.ptr D :: ds) → Q (.ref D) H') : tLc2 wi g tt wi1 g1 tt1 te ws ws1 σ H Q := by
  obtain ⟨yss, hm, hz0⟩ := Option.bind_eq_some_iff.mp hm
  unfold szO at hz0
  split at hz0
  rotate_left
  · cases hz0
  rename_i hsz
  have eys : yss.flatten = ys := by simpa using hz0
  refine hwi _ fun J H1 pv pd hl hz s1 w => ?_
  intro D hD
  refine ⟨fun i m H => m = xs.length - i ∧ i ≤ xs.length ∧ ∃ (acc : List β) (rest : List (List β)), mapO (fun x => (c0 x).bind fun b => if b then (o1 x).bind fun zs => filtO (c x) (k x) zs else some []) (xs.drop i) = some rest ∧ ys = acc ++ rest.flatten ∧ St K B F0 ρ (L ++ [(D, .lst ((acc.map d).map .dat))]) σ H (pv ++ vs) (pd ++ ds),
    ⟨_, rfl, Nat.zero_le _, [], yss, hm, eys.symm, ?_⟩, ?_⟩
  · exact (St.newLst (us := []) (xs := []) s1 rfl hD (Nat.zero_le _)).pop
  rintro i m H2 ⟨rfl, hi, acc, rest, hr, ey, s2⟩
  obtain ⟨w3, w4⟩ := w B F0 _ _ σ H2 vs ds i (hPL _) s2
  by_cases hlt : i < xs.length
  · obtain ⟨go, yl⟩ := w4 xs[i] (List.getElem?_eq_getElem hlt)
    rw [List.drop_eq_getElem_cons hlt] at hr
    obtain ⟨as, rest', ha, hr', rfl⟩ := mapO_cons hr
    obtain ⟨b, hb, ha⟩ := Option.bind_eq_some_iff.mp ha
    refine .inr ⟨go, fun H => ∃ (acc : List β) (rest : List (List β)), mapO (fun x => (c0 x).bind fun b => if b then (o1 x).bind fun zs => filtO (c x) (k x) zs else some []) (xs.drop (i + 1)) = some rest ∧ ys = acc ++ rest.flatten ∧ St K B F0 ρ (L ++ [(D, .lst ((acc.map d).map .dat))]) σ H (pv ++ vs) (pd ++ ds),
      fun H' q => ⟨xs.length - (i + 1), by omega, rfl, hlt, q⟩, fun y H' hy => ?_⟩
    have s3 := yl y H' hy
    have s4 : St K B F0 ρ (L ++ [(D, .lst ((acc.map d).map .dat))]) σ H' (y :: (liveV σ ρ ++ (pv ++ vs))) (en xs[i] :: (liveS σ ρ ++ (pd ++ ds))) := by
      obtain ⟨F, k', a, b'⟩ := s3
      cases b' with
      | cons r t => exact ⟨F, k', a, .cons r (pr_app (live_of a) t)⟩
    refine hg xs[i] _ _ H' y _ _ _ (s4.wipe ws) fun σ5 H5 e5 s5 => ⟨?_, ?_⟩
    · rw [e5]
      apply List.ext_getElem?
      intro j
      simp only [wipe_get]
      by_cases hj : j ∈ ws
      · simp only [if_pos hj]
        cases σ[j]? <;> rfl
      · simp only [if_neg hj]
    · refine ht0 xs[i] b hb _ σ5 H5 _ _ _ s5 fun H6 s6 => ?_
      cases b with
      | false =>
        have e : [] = as := by simpa using ha
        subst e
        refine iteF ⟨acc, rest', hr', by rw [ey]; rfl, s6.back hS⟩
      | true =>
        rw [if_pos rfl] at ha
        obtain ⟨zs, hzs, ha⟩ := Option.bind_eq_some_iff.mp ha
        refine iteT (in_read (wi := wi1) (g := g1) (tt := tt1) (te := te) (ws := ws1) (PL := PL1) (acc0 := acc) (d := d) (hwi1 xs[i] zs hzs _ σ5 H6 _ _ s6) hPL1 (hg1 xs[i]) (ht xs[i]) (he xs[i]) ha s6.slots ?_ fun H7 s7 => ?_)
        · have := congrArg List.length ey
          rw [List.length_append, List.flatten_cons, List.length_append] at this
          have e2 := congrArg List.length eys
          omega
        · exact ⟨acc ++ as, rest', hr', by rw [ey, List.flatten_cons, List.append_assoc], s7.back hS⟩
  · have e : i = xs.length := by omega
    have e2 : xs.drop i = [] := by rw [e]; exact List.drop_length
    rw [e2] at hr
    have e3 : rest = [] := by
      have : ([] : List (List β)) = rest := by simpa [mapO] using hr
      exact this.symm
    subst e3
    rw [List.flatten_nil, List.append_nil] at ey
    subst ey
    refine .inl ⟨w3 e, hQ D H2 ?_⟩
    have s5 : St K B F0 ρ (L ++ [(D, .lst ((ys.map d).map .dat))]) σ H2 vs ds := s2.stack fun F r => (pr_split hl r).2
    exact s5.push fun F => rfl
end

section
variable {X : Cx} {α β γ ν κ W : Type} {e tg iter elt c tg1 iter1 : Expr} {ρ ρ' : Env} {L : Ow} {pos : Pos} {d : α → PyData} {rest : List Stmt}
theorem GY.bk2 {scope : Scope} {ρf ρf' : α → Env} {sf : α → Sl} {ws : List Nat} (h : Bk X scope fun X => ∀ x, GY X tg (ρf x) (sf x) (ρf' x) ws) :
    ∃ g, Bk X scope (fun X => PG X tg g) ∧ ∀ x L B F0 σ H v vs ds Q, St X.K B F0 (ρf x) L σ H (v :: vs) (sf x :: ds) → (∀ σ' H', wipe σ' ws = wipe σ ws → St X.K B F0 (ρf' x) L σ' H' vs ds → Q σ' H') → g v σ H Q := by
  refine ⟨fun v σ H Q => ∃ x L B F0 vs ds, St X.K B F0 (ρf x) L σ H (v :: vs) (sf x :: ds) ∧ ∀ σ' H', wipe σ' ws = wipe σ ws → St X.K B F0 (ρf' x) L σ' H' vs ds → Q σ' H', fun s1 H1 C cl fp => ⟨fun pins s σ H v u Q I r h2 => ?_⟩, fun x L B F0 σ H v vs ds Q q k => ⟨x, L, B, F0, vs, ds, q, k⟩⟩
  obtain ⟨x, L, B, F0, vs, ds, q, k⟩ := h2
  obtain ⟨g, p, h⟩ := h s1 H1 C cl fp x
  exact p.run pins s σ H v u Q I r (h L B F0 σ H v vs ds Q q k)
theorem IX.bk {scope : Scope} {ρf : γ → Env} {PL : Ow → Prop} {en : α → Sl} {k : γ → Option (List α)} (h : Bk X scope fun X => ∀ x M, IX X tg iter (ρf x) (L ++ M) PL true en (k x)) :
    ∃ wi, Bk X scope (fun X => PI X tg iter wi) ∧ ∀ x zs, k x = some zs → ∀ M B F0 σ H vs ds, St X.K B F0 (ρf x) (L ++ M) σ H vs ds → ∀ R : It → Hp → Prop, (∀ J H1 pv pd, pv.length = pd.length → zs.length ≤ sizeLine → St X.K B F0 (ρf x) (L ++ M) σ H1 (pv ++ vs) (pd ++ ds) → Walk X.K J pv pd PL en zs → R J H1) → wi σ H R := by
  refine ⟨fun σ H R => ∃ x zs M B F0 vs ds, k x = some zs ∧ St X.K B F0 (ρf x) (L ++ M) σ H vs ds ∧ ∀ J H1 pv pd, pv.length = pd.length → zs.length ≤ sizeLine → St X.K B F0 (ρf x) (L ++ M) σ H1 (pv ++ vs) (pd ++ ds) → Walk X.K J pv pd PL en zs → R J H1, fun s1 H1 C cl fp => ⟨fun pins s σ H R I h2 => ?_⟩,
    fun x zs e M B F0 σ H vs ds q R r => ⟨x, zs, M, B, F0, vs, ds, e, q, r⟩⟩
  obtain ⟨x, zs, M, B, F0, vs, ds, e, q, r⟩ := h2
  obtain ⟨wi, p, h⟩ := h s1 H1 C cl fp x M
  exact p.run pins s σ H R I (h zs e B F0 σ H vs ds R q fun J H1 pv pd a b c d => r J H1 pv pd a (b rfl) c d)
/-- the tests of a for, none or one -/
def PTB (X : Cx) (ifs : List Expr) (scope : Scope) (ρb : γ → Env) (L : Ow) (c : γ → Option Bool) : Prop :=
  ∃ t, Bk X scope (fun X => PTs X ifs t) ∧ ∀ x b, c x = some b → ∀ M B F0 σ H vs ds Q, St X.K B F0 (ρb x) (L ++ M) σ H vs ds → (∀ H', St X.K B F0 (ρb x) (L ++ M) σ H' vs ds → Q b H') → t σ H Q
theorem tb_no {scope : Scope} {ρb : γ → Env} : PTB X [] scope ρb L (fun _ => some true) := ⟨_, fun s H C cl fp => pts_nil, fun x b e M B F0 σ H vs ds Q s q => by cases e; exact q H s⟩
theorem tb_if {scope : Scope} {ρb : γ → Env} {cf : γ → Option Bool} (h : Bk X scope fun X => ∀ x M, TX X c (ρb x) (L ++ M) (cf x)) : PTB X [c] scope ρb L cf := by
  obtain ⟨tt, pt, ht⟩ := TM.bk (Lf := fun _ : Unit => L) (TX.bk h)
  exact ⟨tt, fun s H C cl fp => pts_one (pt s H C cl fp), fun x b e M B F0 σ H vs ds Q s q => ht x () b () (by rw [e]; rfl) M B F0 σ H vs ds Q s q⟩
theorem EX.bk1 {scope : Scope} {ρf : γ → Env} {k : γ → Option α} (h : Bk X scope fun X => ∀ x M, EX X d e (ρf x) (L ++ M) (k x)) :
    ∃ t, Bk X scope (fun X => PE X e t) ∧ ∀ x a, k x = some a → ∀ M B F0 σ H vs ds Q, St X.K B F0 (ρf x) (L ++ M) σ H vs ds → (∀ v H', St X.K B F0 (ρf x) (L ++ M) σ H' (v :: vs) (.dat (d a) :: ds) → Q v H') → t σ H Q := by
  obtain ⟨te, pe, he⟩ := EM.bk (Lf := fun _ : Unit => L) (EX.bk h)
  exact ⟨te, pe, fun x a e M B F0 σ H vs ds Q s q => he x () a () (by rw [e]; rfl) M B F0 σ H vs ds Q s q⟩
/-- a comprehension of two fors -/
def LCB (X : Cx) {α : Type} (tg iter tg1 iter1 elt : Expr) (ifs ifs1 : List Expr) (scope : Scope) (own : List (Str × Nat)) (ws1 : List Nat) (d : α → PyData) (ρ : Env) (L : Ow) (o : Option (List α)) : Prop :=
  ∃ wi g tt wi1 g1 tt1 te, PI X tg iter wi ∧ Bk X scope (fun X => PG X tg g) ∧ Bk X scope (fun X => PTs X ifs tt) ∧ Bk X scope (fun X => PI X tg1 iter1 wi1) ∧ Bk X scope (fun X => PG X tg1 g1) ∧ Bk X scope (fun X => PTs X ifs1 tt1) ∧ Bk X scope (fun X => PE X elt te) ∧
    ∀ ys, o = some ys → ∀ B F0 σ H vs ds Q, St X.K B F0 ρ L σ H vs ds → (∀ p H', St X.K B F0 ρ (L ++ [(p, .lst ((ys.map d).map .dat))]) σ H' (.ref p :: vs) (.ptr p :: ds) → Q (.ref p) H') → tLc2 wi g tt wi1 g1 tt1 te (own.map (·.2)) ws1 σ H Q
/-- .. of the inner for -/
def PTB2 (X : Cx) (ifs : List Expr) (scope : Scope) (ρc : β → γ → Env) (L : Ow) (c : β → γ → Option Bool) : Prop := PTB X ifs scope (fun q : β × γ => ρc q.1 q.2) L (fun q => c q.1 q.2)
theorem tb_no2 {scope : Scope} {ρc : β → γ → Env} : PTB2 X [] scope ρc L (fun _ _ => some true) := tb_no
theorem tb_if2 {scope : Scope} {ρc : β → γ → Env} {cf : β → γ → Option Bool} (h : Bk X scope fun X => ∀ x z M, TX X c (ρc x z) (L ++ M) (cf x z)) : PTB2 X [c] scope ρc L cf := tb_if fun s H C cl fp q M => h s H C cl fp q.1 q.2 M
theorem lp_2 {scope : Scope} {own : List (Str × Nat)} (ws1 : List Nat) {ifs ifs1 : List Expr} {PL PL1 : Ow → Prop} {en : β → Sl} {en1 : γ → Sl} {o : Option (List β)} {ρb : β → Env} {ρc : β → γ → Env} {c0 : β → Option Bool} {o1 : β → Option (List γ)} {cf : β → γ → Option Bool} {k : β → γ → Option α}
    (hi : IX X tg iter ρ L PL true en o) (hPL : ∀ M, PL (L ++ M)) (hg : Bk X scope fun X => ∀ x, GY X tg (wipeE ρ (own.map (·.2))) (en x) (ρb x) (own.map (·.2)))
    (ht0 : PTB X ifs scope ρb L c0) (hi1 : Bk X scope fun X => ∀ x M, IX X tg1 iter1 (ρb x) (L ++ M) PL1 true en1 (o1 x)) (hPL1 : ∀ M, PL1 (L ++ M))
    (hg1 : Bk X scope fun X => ∀ x z, GY X tg1 (wipeE (ρb x) ws1) (en1 z) (ρc x z) ws1)
    (ht : PTB2 X ifs1 scope ρc L cf) (he : Bk X scope fun X => ∀ x z M, EX X d elt (ρc x z) (L ++ M) (k x z)) :
    LCB X tg iter tg1 iter1 elt ifs ifs1 scope own ws1 d ρ L (o.bind fun xs => flatO (fun x => (c0 x).bind fun b => if b then (o1 x).bind fun zs => filtO (cf x) (k x) zs else some []) xs) := by
  obtain ⟨wi, pi, hi⟩ := hi
  obtain ⟨g, pg, hg⟩ := GY.bk hg
  obtain ⟨tt, pt, ht0⟩ := ht0
  obtain ⟨wi1, pi1, hi1⟩ := IX.bk hi1
  obtain ⟨g1, pg1, hg1⟩ := GY.bk2 (scope := scope) (ρf := fun q : β × γ => wipeE (ρb q.1) ws1) (ρf' := fun q => ρc q.1 q.2) (sf := fun q => en1 q.2) (fun s H C cl fp q => hg1 s H C cl fp q.1 q.2)
  obtain ⟨tt1, pt1, ht⟩ := ht
  obtain ⟨te, pe, he⟩ := EX.bk1 (scope := scope) (ρf := fun q : β × γ => ρc q.1 q.2) (k := fun q => k q.1 q.2) (fun s H C cl fp q M => he s H C cl fp q.1 q.2 M)
  refine ⟨wi, g, tt, wi1, g1, tt1, te, pi, pg, pt, pi1, pg1, pt1, pe, fun ys hm B F0 σ H vs ds Q s q => ?_⟩
  obtain ⟨xs, hx, hm⟩ := Option.bind_eq_some_iff.mp hm
  exact lc2_read (fun R r => hi xs hx B F0 σ H vs ds R s fun J H1 pv pd e z s1 w => r J H1 pv pd e (z rfl) s1 w) hPL hPL1 (fun x M σ H v vs ds Q => hg x (L ++ M) B F0 σ H v vs ds Q) (fun x b e M σ H vs ds Q => ht0 x b e M B F0 σ H vs ds Q)
    (fun x zs e M σ H vs ds s R r => hi1 x zs e M B F0 σ H vs ds s R r) (fun x z M σ H v vs ds Q => hg1 (x, z) (L ++ M) B F0 σ H v vs ds Q) (fun x z b e M σ H vs ds Q => ht (x, z) b e M B F0 σ H vs ds Q) (fun x z a e M σ H vs ds Q => he (x, z) a e M B F0 σ H vs ds Q) hm s.slots q
theorem LCB.n {ifs ifs1 : List Expr} {scope : Scope} {own : List (Str × Nat)} {ws1 : List Nat} {o : Option (List α)} (h : LCB X tg iter tg1 iter1 elt ifs ifs1 scope own ws1 d ρ L o) (hN : X.N.Nodup) (ok : BlkOk X.N X.env.scope scope own) (hv : ∀ i ∈ ws1, i ∈ own.map (·.2) := by decide) (hc : X.calm = true := by rfl) (hs : ∀ x, foldedSetIterable iter X.env x = pure x := by intro _; rfl) (hs1 : ∀ env x, foldedSetIterable iter1 env x = pure x := by intro _ _; rfl) :
    EN X d (.ListComp elt [⟨tg, iter, ifs, 0⟩, ⟨tg1, iter1, ifs1, 0⟩] scope pos) ρ L o := by
  obtain ⟨wi, g, tt, wi1, g1, tt1, te, pi, pg, pt, pi1, pg1, pt1, pe, h⟩ := h
  exact ⟨_, pe_lc2 hc hN pi ok hv pg pt pi1 pg1 pt1 pe hs hs1, fun a ha => h a ha⟩
theorem LCB.s {ifs ifs1 : List Expr} {scope : Scope} {own : List (Str × Nat)} {ws1 : List Nat} {o : Option (List α)} {y : Str} {py spos : Pos} (h : LCB X tg iter tg1 iter1 elt ifs ifs1 scope own ws1 d ρ L o) (i : Nat) (hN : X.N.Nodup) (ok : BlkOk X.N X.env.scope scope own)
    (hsw : swapsWith (.ListComp elt [⟨tg, iter, ifs, 0⟩, ⟨tg1, iter1, ifs1, 0⟩] scope pos) (some (.Name y py)) spos.line X.env = pure true) (hv : ∀ i ∈ ws1, i ∈ own.map (·.2) := by decide) (hi : X.N[i]? = some y := by rfl) (hyl : X.env.scope.names.lookup y = some .local := by rfl) (hc : X.calm = true := by rfl) (hs : ∀ x, foldedSetIterable iter X.env x = pure x := by intro _; rfl) (hs1 : ∀ env x, foldedSetIterable iter1 env x = pure x := by intro _ _; rfl) :
    SX X (.Assign [.Name y py] (.ListComp elt [⟨tg, iter, ifs, 0⟩, ⟨tg1, iter1, ifs1, 0⟩] scope pos) spos) ρ L o (ocn fun ys => (ρ.set i (some (.dat (dL d ys))), L)) := by
  obtain ⟨wi, g, tt, wi1, g1, tt1, te, pi, pg, pt, pi1, pg1, pt1, pe, h⟩ := h
  refine ⟨_, ps_setLc2 hc hN hi hyl hsw pi ok hv pg pt pi1 pg1 pt1 pe hs hs1, fun a ha B F0 σ H vs ds D s k => h a ha B F0 σ H vs ds _ s fun p H1 s1 => k _ _ ?_⟩
  have s2 := St.frz (L2 := []) s1
  rw [List.append_nil] at s2
  exact s2.store i

/-! ### {k: v for x in xs} -/
def dcO {κ ν : Type} [DecidableEq κ] (k : α → Option κ) (v : α → Option ν) : List α → List (κ × ν) → Option (List (κ × ν))
  | [], acc => some acc
  | x :: xs, acc => (k x).bind fun a => (v x).bind fun b => dcO k v xs (dput acc a b)
theorem dc_read {K : PySem.W.Frag} {wi : TI} {g : TG} {tk tv : TE} {ws : List Nat} {ρ : Env} {ρb : α → Env} {L : Ow} {PL : Ow → Prop} {en : α → Sl} {xs : List α} {zs : List (Int × ν)} {dv : ν → PyData} {kf : α → Option Int} {vf : α → Option ν}
    {B F0 : Hp} {σ : L2.St} {H : Hp} {vs : List V} {ds : List Sl} {Q : VK}
    (hwi : ∀ R : It → Hp → Prop, (∀ J H1 pv pd, pv.length = pd.length → xs.length ≤ sizeLine → St K B F0 ρ L σ H1 (pv ++ vs) (pd ++ ds) → Walk K J pv pd PL en xs → R J H1) → wi σ H R)
    (hPL : ∀ M, PL (L ++ M))
    (hg : ∀ x M σ H v vs ds Q, St K B F0 (wipeE ρ ws) (L ++ M) σ H (v :: vs) (en x :: ds) → (∀ σ' H', wipe σ' ws = wipe σ ws → St K B F0 (ρb x) (L ++ M) σ' H' vs ds → Q σ' H') → g v σ H Q)
    (hk : ∀ x a, kf x = some a → ∀ M σ H vs ds Q, St K B F0 (ρb x) (L ++ M) σ H vs ds → (∀ v H', St K B F0 (ρb x) (L ++ M) σ H' (v :: vs) (.dat (dI a) :: ds) → Q v H') → tk σ H Q)
    (he : ∀ x a, vf x = some a → ∀ M σ H vs ds Q, St K B F0 (ρb x) (L ++ M) σ H vs ds → (∀ v H', St K B F0 (ρb x) (L ++ M) σ H' (v :: vs) (.dat (dv a) :: ds) → Q v H') → tv σ H Q)
    (hm : dcO kf vf xs [] = some zs) (hS : ∃ F, Paired (SlR K F) σ ρ)
    (hQ : ∀ D H', St K B F0 ρ (L ++ [(D, odK false dI dv zs)]) σ H' (.ref D :: vs) (.ptr D :: ds) → Q (.ref D) H') : tDc wi g tYes tk tv ws σ H Q := by
  refine hwi _ fun J H1 pv pd hl hz s1 w => ?_
  intro D hD
  refine ⟨fun i m H => m = xs.length - i ∧ i ≤ xs.length ∧ ∃ acc : List (Int × ν), dcO kf vf (xs.drop i) acc = some zs ∧ acc.length ≤ i ∧ St K B F0 ρ (L ++ [(D, odK false dI dv acc)]) σ H (pv ++ vs) (pd ++ ds),
    ⟨_, rfl, Nat.zero_le _, [], hm, Nat.zero_le _, ?_⟩, ?_⟩
  · obtain ⟨F, k', a, b⟩ := s1
    exact ⟨F, k'.alloc hD (Nat.zero_le _) ⟨[], upd_same, .nil⟩, a, b⟩
  rintro i m H2 ⟨rfl, hi, acc, hr, ha, s2⟩
  obtain ⟨w3, w4⟩ := w B F0 _ _ σ H2 vs ds i (hPL _) s2
  by_cases hlt : i < xs.length
  · obtain ⟨go, yl⟩ := w4 xs[i] (List.getElem?_eq_getElem hlt)
    rw [List.drop_eq_getElem_cons hlt] at hr
    obtain ⟨a, hka, hr⟩ := Option.bind_eq_some_iff.mp hr
    obtain ⟨b, hvb, hr⟩ := Option.bind_eq_some_iff.mp hr
    refine .inr ⟨go, fun H => ∃ acc : List (Int × ν), dcO kf vf (xs.drop (i + 1)) acc = some zs ∧ acc.length ≤ i + 1 ∧ St K B F0 ρ (L ++ [(D, odK false dI dv acc)]) σ H (pv ++ vs) (pd ++ ds),
      fun H' q => ⟨xs.length - (i + 1), by omega, rfl, hlt, q⟩, fun y H' hy => ?_⟩
    have s3 := yl y H' hy
    have s4 : St K B F0 ρ (L ++ [(D, odK false dI dv acc)]) σ H' (y :: (liveV σ ρ ++ (pv ++ vs))) (en xs[i] :: (liveS σ ρ ++ (pd ++ ds))) := by
      obtain ⟨F, k', a, b'⟩ := s3
      cases b' with
      | cons r t => exact ⟨F, k', a, .cons r (pr_app (live_of a) t)⟩
    refine hg xs[i] _ _ H' y _ _ _ (s4.wipe ws) fun σ5 H5 e5 s5 => ⟨?_, ?_⟩
    · rw [e5]
      apply List.ext_getElem?
      intro j
      simp only [wipe_get]
      by_cases hj : j ∈ ws
      · simp only [if_pos hj]
        cases σ[j]? <;> rfl
      · simp only [if_neg hj]
    · simp only [tYes, if_true]
      refine hk xs[i] a hka _ σ5 H5 _ _ _ s5 fun u H6 s6 => he xs[i] b hvb _ σ5 H6 _ _ _ s6 fun v H7 s7 => ?_
      have eu : u = .int a := s7.pop.isInt
      subst eu
      have m7 : (L ++ [(D, odK false dI dv acc)])[L.length]? = some (D, odK false dI dv acc) := by simp
      obtain ⟨F, k', sl, sv⟩ := s7
      cases sv with
      | cons r t =>
        cases t with
        | cons r2 t =>
          have O := k'.at_ m7
          obtain ⟨ws', h1, h2⟩ := O
          have hlen : ws'.length = acc.length := by rw [Paired.length h2, List.length_map]
          refine ⟨ws', .inl a, rfl, h1, by omega, dput acc a b, hr, Nat.le_trans (dput_length _ _ _) (by omega), ?_⟩
          have h3 := dr_put (c := kD) (f := fun i : Int => .inl i) (fun _ _ => kD_inj) ky_int a r h2
          have hl2 := Nat.le_trans (dput_length acc a b) (Nat.add_le_add_right ha 1)
          have e3 : (putK ws' (Sum.inl a) v).length = (dput acc a b).length := by rw [Paired.length h3, List.length_map]
          have k2 := Ok.write (L2 := []) (d' := odK false dI dv (dput acc a b)) (o := .dK (putK ws' (.inl a) v)) k' (by show (putK ws' (Sum.inl a) v).length ≤ sizeLine; omega) ⟨_, upd_same, h3⟩
          exact St.back hS ⟨F, k2, sl, t⟩
  · have e : i = xs.length := by omega
    have e2 : xs.drop i = [] := by rw [e]; exact List.drop_length
    rw [e2] at hr
    have e3 : acc = zs := by simpa [dcO] using hr
    subst e3
    refine .inl ⟨w3 e, hQ D H2 ?_⟩
    have s5 : St K B F0 ρ (L ++ [(D, odK false dI dv acc)]) σ H2 vs ds := s2.stack fun F r => (pr_split hl r).2
    exact s5.push fun F => rfl

theorem e_dc {ν : Type} {kx vx : Expr} {scope : Scope} (own : List (Str × Nat)) {PL : Ow → Prop} {en : α → Sl} {dv : ν → PyData} {o : Option (List α)} {ρb : α → Env} {kf : α → Option Int} {vf : α → Option ν}
    (hi : IX X tg iter ρ L PL true en o) (hPL : ∀ M, PL (L ++ M)) (hg : Bk X scope fun X => ∀ x, GY X tg (wipeE ρ (own.map (·.2))) (en x) (ρb x) (own.map (·.2)))
    (hk : Bk X scope fun X => ∀ x M, EX X dI kx (ρb x) (L ++ M) (kf x)) (hv : Bk X scope fun X => ∀ x M, EX X dv vx (ρb x) (L ++ M) (vf x)) (hN : X.N.Nodup) (ok : BlkOk X.N X.env.scope scope own) (hc : X.calm = true := by rfl) (hs : ∀ x, foldedSetIterable iter X.env x = pure x := by intro _; rfl) :
    EO X (odK false dI dv) (.DictComp kx vx [⟨tg, iter, [], 0⟩] scope pos) ρ L (o.bind fun xs => dcO kf vf xs []) := by
  obtain ⟨wi, pi, hi⟩ := hi
  obtain ⟨g, pg, hg⟩ := GY.bk hg
  obtain ⟨tk, pk, hk⟩ := EX.bk1 hk
  obtain ⟨tv, pv, hv⟩ := EX.bk1 hv
  refine ⟨_, pe_dc hc hN pi ok pg (fun s H C cl fp => pts_nil) pk pv hs, fun zs hm B F0 σ H vs ds Q s q => ?_⟩
  obtain ⟨xs, hx, hm⟩ := Option.bind_eq_some_iff.mp hm
  exact dc_read (fun R r => hi xs hx B F0 σ H vs ds R s fun J H1 pv pd e z s1 w => r J H1 pv pd e (z rfl) s1 w) hPL (fun x M σ H v vs ds Q => hg x (L ++ M) B F0 σ H v vs ds Q) (fun x a e M σ H vs ds Q => hk x a e M B F0 σ H vs ds Q) (fun x a e M σ H vs ds Q => hv x a e M B F0 σ H vs ds Q) hm s.slots q
end
end Mir
namespace Mir
open PySem L2

/-! ### sorted of a dict -/
section
open PySem.Spec PyProof.Rows
variable {X : Cx}
def rSortKeys (K : PySem.W.Frag) : List V → Hp → VK → Prop := fun vs H Q => ∃ (a : Addr) (kvs : List (Key × V)) (bs : List (V × PyData)), vs = [.ref a] ∧ H a = some (.dK kvs) ∧ bs.map (·.1) = kvs.map (fun kv => kV kv.1) ∧ (∀ b ∈ bs, Dp K H b.1 b.2) ∧ PySem.W.AllAlike (bs.map (·.2)) ∧ PySem.W.Sortable (bs.map (·.2)) ∧ (∀ b ∈ bs, b.2.depth ≤ 64) ∧
  ∀ p, H p = none → Q (.ref p) (upd H p (.lst ((bs.mergeSort (PySem.W.dataLe false (·.2))).map (·.1))))
theorem cr_sortKeys (hcalm : X.calm = true) (hu : X.A.units + 70 < cLine) : CallR X (.builtin "sorted") (rSortKeys X.K) := by
  intro pins s σ H xs us Q I r h
  obtain ⟨a, kvs, bs, rfl, hk0, hbs, hd, hal, hk, hdep, q⟩ := h
  obtain ⟨u, eu, rx⟩ := vals1 r
  subst eu
  obtain rfl : u = Value.ref a := rx
  obtain ⟨z, lo, vs, rk, dd⟩ := (show ObjOk X.prog X.w H s.heap a (.dK kvs) from I.hok a _ hk0)
  obtain ⟨ep, hat⟩ := dd.dictAt
  have hl : kvs.length = vs.length := Paired.length rk
  have hbl : bs.length = kvs.length := by
    have := congrArg List.length hbs
    rw [List.length_map, List.length_map] at this
    exact this
  refine Calls.call_function_entry PyProof.Rows.kind_sorted PyProof.Rows.plain_sorted PyProof.Rows.entry_sorted (PyProof.Rows.args_sorted1 _) ?_
  unfold Builtin.«sorted»
  refine wpAny_bind (m := checkCount "sorted" 1 1 _) (wpAny_pure ?_)
  refine wpAny_bind (PySem.W.kdu_collect (A := X.A.in1) (PySem.W.kdl_dict (knd := mixKind X.prog X.w) (kvs := vs) (ep := ep) lo) (I.ok.hd hcalm) hat (by rw [← hl]; exact z) fun h' tk acc hkeep hacc => ?_)
  have rv : Vals (bs.map (·.1)) acc.toList := by
    have el : acc.toList.length = acc.size := by simp
    rw [hbs]
    refine vals_of_at (by rw [List.length_map, el, hacc.1, hl]) fun j x w h1 h2 => ?_
    obtain ⟨k, y, hky, hi⟩ := hacc.2 j w (by rw [← Array.getElem?_toList]; exact h2)
    have e1 : (kvs.map (·.1))[j]? = some k := by
      rw [KV.keys rk, List.getElem?_map, hky] <;> rfl
    have e2 : (kvs.map fun kv => kV kv.1)[j]? = some (kV k) := by
      have e3 : (kvs.map fun kv => kV kv.1) = (kvs.map (·.1)).map kV := by rw [List.map_map] <;> rfl
      rw [e3, List.getElem?_map, e1] <;> rfl
    rw [e2] at h1
    cases h1
    exact keyIs_rel hi
  have hal2 : acc.toList.length = bs.length := by rw [← rv.length, List.length_map]
  have I1 : Inv X pins σ H { s with heap := h', toks := tk } := I.kept hkeep
  have er : PySem.W.EachIs (fun u (b : V × PyData) => ∃ as, Reads h' u b.2 as) acc.toList bs := each_reads I1 hd rv
  refine wpAny_bind (wpAny_newList ?_ (by rw [hal2, hbl]; exact z))
  have hoL : (h'.push (seqObj "list" acc.toList.toArray 0)).get? h'.objs.size = some (seqObj "list" acc.toList.toArray 0) := Heap.get?_push_size _ rfl
  show wpAny _ _ _ _ _ { s with heap := h'.push (seqObj "list" acc.toList.toArray 0), toks := tk }
  have keep : ∀ b o, h'.get? b = some o → (PySem.W.sortingHeap (h'.push (seqObj "list" acc.toList.toArray 0)) h'.objs.size acc.toList).get? b = some o := fun b o e => by
    have hb : b < h'.objs.size := Heap.lt_size e
    exact PySem.W.sortingHeap_old (Nat.ne_of_lt hb) (Heap.get?_push_of_some _ e)
  have er' : PySem.W.EachIs (fun u (b : V × PyData) => ∃ as, Reads (PySem.W.sortingHeap (h'.push (seqObj "list" acc.toList.toArray 0)) h'.objs.size acc.toList) u b.2 as) acc.toList bs := er.mono fun _ _ ⟨as, r⟩ => ⟨as, PyProof.Rows.Reads.keeps keep r⟩
  refine wpAny_bind (wpAny_holding (wpAny_call_entry PyProof.Rows.slot_list_sort ⟨_, hoL, rfl⟩ PyProof.Rows.entry_list_sort
    (PySem.W.list_sort_vals (κ := PySem.W.dataKind (PySem.W.sortingHeap (h'.push (seqObj "list" acc.toList.toArray 0)) h'.objs.size acc.toList) (bs.map (·.2))) (s := { s with heap := h'.push (seqObj "list" acc.toList.toArray 0), toks := tk }) hoL
      (PySem.W.SortsAt.data (s := { s with heap := PySem.W.sortingHeap (h'.push (seqObj "list" acc.toList.toArray 0)) h'.objs.size acc.toList, toks := tk }) (PySem.W.each_map (R := fun v d => ∃ as, Reads (PySem.W.sortingHeap (h'.push (seqObj "list" acc.toList.toArray 0)) h'.objs.size acc.toList) v d as) (fun b : V × PyData => b.2) er') hal hk ?_) (by rw [hal2, hbl]; exact z) ⟨.none, rfl, ?_⟩) (PyProof.Rows.args_list_sort _)))
  · intro x hx
    obtain ⟨b, hb, rfl⟩ := List.mem_map.mp hx
    have := hdep b hb
    show X.A.units + 1 + 1 + b.2.depth < cLine
    omega
  generalize eo : PySem.W.sortVals (PySem.W.dataKind (PySem.W.sortingHeap (h'.push (seqObj "list" acc.toList.toArray 0)) h'.objs.size acc.toList) (bs.map (·.2))) false acc.toList acc.toList = out
  have e2 : PySem.W.EachIs (fun u (b : V × PyData) => RelV b.1 u) out (bs.mergeSort (PySem.W.dataLe false (·.2))) := by
    rw [← eo]
    exact PySem.W.sortVals_data false (each_of rv) er' hal
  have hv := of_each e2
  obtain ⟨e', he'⟩ := PyProof.Rows.sortedHeap_at (vs := acc.toList) (out := out.toArray) hoL
  have hlen : ((bs.mergeSort (PySem.W.dataLe false (·.2))).map (·.1)).length ≤ sizeLine := by
    rw [List.length_map, List.length_mergeSort, hbl]; exact z
  refine wpAny_pure ⟨_, rfl, .ref h'.objs.size, upd H h'.objs.size (.lst ((bs.mergeSort (PySem.W.dataLe false (·.2))).map (·.1))), I1.laid (t' := tk) (fun b u e => ?_) (Nat.le_refl _)
    (show ObjOk X.prog X.w _ _ _ (.lst ((bs.mergeSort (PySem.W.dataLe false (·.2))).map (·.1))) from ⟨hlen, out, e', hv, he'⟩), rfl, q _ (I1.hok.fresh (Nat.le_refl _))⟩
  have hb : b < h'.objs.size := Heap.lt_size e
  rw [PyProof.Rows.sortedHeap_old (Nat.ne_of_lt hb) (by rw [size_push']; exact Nat.lt_succ_of_lt hb)]
  exact Heap.get?_push_of_some _ e
end
section
variable {X : Cx} {ν : Type} {o e : Expr} {ρ : Env} {L : Ow} {p pos : Pos} {n : Nat} {dv : ν → PyData}
theorem dk_keys {K : PySem.W.Frag} {F : Hp} : ∀ {kvs : List (Int × ν)} {ws : List (Key × V)}, DKR K F ws (kvs.map (encK dI dv)) → ws.map (fun kv => kV kv.1) = (kvs.map (·.1)).map V.int
  | [], _, h => by cases h; rfl
  | kv :: kvs, _, h => by
    cases h with
    | @cons x _ _ _ r t =>
      have h4 : dI kv.1 = kD x.1 := r.1
      have e3 : x.1 = .inl kv.1 := by
        cases hx : x.1 with
        | inl i => rw [hx] at h4; cases h4; rfl
        | inr i => rw [hx] at h4; cases h4
      rw [List.map_cons, List.map_cons, List.map_cons, dk_keys t, e3]
      rfl
/-- the keys of a dict, sorted -/
theorem n_sortedD {a : Addr} {kvs : List (Int × ν)} (j : Nat) (hc : X.calm = true) (hr : Room n X.A) (hL : L[j]? = some (a, odK false dI dv kvs)) (ho : ES X o ρ L (some (.ptr a))) (hm : X.mg "sorted" = none) (hs : starEach [o] X.env = (false, eval o X.env) :: starEach [] X.env := by rfl)
    (hh : X.mg "sorted" = none → ∀ {ta}, PE X o ta → X.A.units + 70 < cLine → PE X (.Call (.Name "sorted" p) [o] [] pos) (tCB (rSortKeys X.K) (tCons ta tNil)) := by intro hm _ h hu; exact pe_callB (cr_sortKeys rfl hu) (by rfl) hm (by decide +kernel) (pa_cons h pa_nil)) :
    EN X dI (.Call (.Name "sorted" p) [o] [] pos) ρ L (some ((kvs.map (·.1)).mergeSort leI)) := by
  obtain ⟨t, p, h⟩ := ho
  refine ⟨_, hh hm p (by have := hr.un; omega), fun z hz B F0 σ H vs ds Q s k => ?_⟩
  cases hz
  refine h _ rfl B F0 σ H vs ds _ s fun v H1 s1 => ?_
  have e := s1.isPtr
  subst e
  obtain ⟨F, ok, sl, sv⟩ := id s1.pop
  obtain ⟨ws, h1, h2⟩ := ok.at_ hL
  have ek := dk_keys h2
  refine ⟨a, ws, (kvs.map (·.1)).map fun i => (V.int i, PyData.int i), rfl, h1, ?_, ?_, ?_, ?_, ?_, fun q hq => ?_⟩
  · rw [ek, List.map_map]; rfl
  · intro b hb
    obtain ⟨i, _, rfl⟩ := List.mem_map.mp hb
    exact .int i
  · intro x hx y hy
    simp only [List.map_map, List.mem_map] at hx hy
    obtain ⟨_, _, rfl⟩ := hx
    obtain ⟨_, _, rfl⟩ := hy
    exact srt_int.ali _ _
  · refine .inr fun x hx => ?_
    simp only [List.map_map, List.mem_map] at hx
    obtain ⟨i, _, rfl⟩ := hx
    rcases srt_int.srt with h | h
    · obtain ⟨x, r, e⟩ := h 0
      cases e
    · exact h i.1
  · intro b hb
    obtain ⟨i, _, rfl⟩ := List.mem_map.mp hb
    exact srt_int.dep i
  · have e3 : (((kvs.map (·.1)).map fun i => (V.int i, PyData.int i)).mergeSort (PySem.W.dataLe false (·.2))).map (·.1) = ((kvs.map (·.1)).mergeSort leI).map V.int := by
      have e4 : ((kvs.map (·.1)).map fun i => (V.int i, PyData.int i)).mergeSort (PySem.W.dataLe false (·.2)) = ((kvs.map (·.1)).mergeSort leI).map fun i => (V.int i, PyData.int i) := by
        rw [← srt_int.le]
        exact (PySem.W.sort_maps (r := PySem.W.dataLe false dI) (s := PySem.W.dataLe false (fun b : V × PyData => b.2)) (fun i => (V.int i, PyData.int i)) (fun _ _ _ _ => rfl)).symm
      rw [e4, List.map_map]
      rfl
    rw [e3]
    refine k q _ (St.newLst (xs := (((kvs.map (·.1)).mergeSort leI).map dI).map .dat) (us := ((kvs.map (·.1)).mergeSort leI).map V.int) (ints_st _ s1.pop) (by simp) hq ?_)
    have hz := ok.sz _ _ h1
    have hl : ws.length = kvs.length := by rw [Paired.length h2, List.length_map]
    rw [List.length_map, List.length_mergeSort, List.length_map, ← hl]
    exact hz
end

/-! ### sorted(set(t)) -/
def insS (x : Int) : List Int → List Int
  | [] => [x]
  | y :: ys => if x < y then x :: y :: ys else if x = y then y :: ys else y :: insS x ys
def sset (xs : List Int) : List Int := xs.foldl (fun a x => insS x a) []
theorem mem_insS {x k : Int} : ∀ {ys : List Int}, k ∈ insS x ys ↔ k = x ∨ k ∈ ys
  | [] => by simp [insS]
  | y :: ys => by
    unfold insS
    split
    · simp
    · split
      · rename_i h
        subst h
        simp
      · rw [List.mem_cons, mem_insS, List.mem_cons]
        exact ⟨fun h => by rcases h with h | h | h; exact .inr (.inl h); exact .inl h; exact .inr (.inr h), fun h => by rcases h with h | h | h; exact .inr (.inl h); exact .inl h; exact .inr (.inr h)⟩
theorem insS_lt {x : Int} : ∀ {ys : List Int}, ys.Pairwise (· < ·) → (insS x ys).Pairwise (· < ·)
  | [], _ => by simp [insS]
  | y :: ys, h => by
    obtain ⟨h1, h2⟩ := List.pairwise_cons.mp h
    unfold insS
    split
    · rename_i hx
      exact List.pairwise_cons.mpr ⟨fun z hz => by rcases List.mem_cons.mp hz with rfl | hz; exact hx; exact Int.lt_trans hx (h1 z hz), h⟩
    · split
      · exact h
      · rename_i hx hn
        refine List.pairwise_cons.mpr ⟨fun z hz => ?_, insS_lt h2⟩
        rcases mem_insS.mp hz with rfl | hz
        · omega
        · exact h1 z hz
theorem mem_fold {k : Int} : ∀ {xs a : List Int}, k ∈ xs.foldl (fun a x => insS x a) a ↔ k ∈ xs ∨ k ∈ a
  | [], a => by simp
  | x :: xs, a => by
    rw [List.foldl_cons, mem_fold, mem_insS, List.mem_cons]
    exact ⟨fun h => by rcases h with h | h | h; exact .inl (.inr h); exact .inl (.inl h); exact .inr h, fun h => by rcases h with (h | h) | h; exact .inr (.inl h); exact .inl h; exact .inr (.inr h)⟩
theorem fold_lt : ∀ {xs a : List Int}, a.Pairwise (· < ·) → (xs.foldl (fun a x => insS x a) a).Pairwise (· < ·)
  | [], _, h => h
  | x :: xs, a, h => by rw [List.foldl_cons]; exact fold_lt (insS_lt h)
theorem mem_sset {k : Int} {xs : List Int} : k ∈ sset xs ↔ k ∈ xs := by unfold sset; rw [mem_fold]; simp
theorem sset_lt (xs : List Int) : (sset xs).Pairwise (· < ·) := fold_lt List.Pairwise.nil
theorem lt_unique : ∀ {xs ys : List Int}, xs.Pairwise (· < ·) → ys.Pairwise (· < ·) → (∀ k, k ∈ xs ↔ k ∈ ys) → xs = ys
  | [], [], _, _, _ => rfl
  | [], y :: ys, _, _, h => absurd ((h y).mpr List.mem_cons_self) (by simp)
  | x :: xs, [], _, _, h => absurd ((h x).mp List.mem_cons_self) (by simp)
  | x :: xs, y :: ys, hx, hy, h => by
    obtain ⟨a1, a2⟩ := List.pairwise_cons.mp hx
    obtain ⟨b1, b2⟩ := List.pairwise_cons.mp hy
    have e : x = y := by
      rcases List.mem_cons.mp ((h x).mp List.mem_cons_self) with e | m
      · exact e
      · rcases List.mem_cons.mp ((h y).mpr List.mem_cons_self) with e | m2
        · exact e.symm
        · have := b1 x m
          have := a1 y m2
          omega
    subst e
    rw [lt_unique a2 b2 fun k => ?_]
    constructor
    · intro m
      rcases List.mem_cons.mp ((h k).mp (List.mem_cons_of_mem _ m)) with e | q
      · have := a1 k m; omega
      · exact q
    · intro m
      rcases List.mem_cons.mp ((h k).mpr (List.mem_cons_of_mem _ m)) with e | q
      · have := b1 k m; omega
      · exact q
noncomputable def ssetO (xs : List Int) : Option (List Int) := @ite _ (xs.length < 64) (Classical.propDecidable _) (some (sset xs)) none
section
open PySem.Spec PyProof.Rows
variable {X : Cx} {a : Expr} {ta : TE} {p p2 q pos : Pos}
def tSortSet (K : PySem.W.Frag) (te : TE) : TE := fun σ H Q => te σ H fun v H1 => ∃ p ns, v = .ref p ∧ SqT K H1 p (ns.map V.int) ∧ ns.length < 64 ∧ ∀ q, H1 q = none → Q (.ref q) (upd H1 q (.lst ((sset ns).map V.int)))
theorem pe_sortSet (hg : Gl X "sorted") (hm : X.mg "sorted" = none) (hg2 : Gl X "set") (hm2 : X.mg "set" = none) (ha : PE X a ta) (hc : X.calm = true := by rfl)
    (na : starEach [a] X.env = (false, eval a X.env) :: starEach [] X.env := by rfl) : PE X (.Call (.Name "sorted" p) [.Call (.Name "set" p2) [a] [] q] [] pos) (tSortSet X.K ta) := by
  refine ⟨fun pins s σ H Q I h => ?_⟩
  refine Call_ (ld_blt I hg hm (show bootBuiltins "sorted" = some (.builtin "sorted") by decide +kernel) ?_)
  refine PyProof.Rows.callWith_builtin1 (PyProof.Rows.args_cons ?_ rfl) rfl rfl
  refine Call_ (ld_blt I hg2 hm2 PyProof.Rows.boot_set ?_)
  refine PyProof.Rows.callWith_type1 (PyProof.Rows.args_cons (thn (ha.run pins s σ H _ I h) fun v s1 ⟨x, H1, I1, r1, q1⟩ => PyProof.Rows.args_nil ?_) na) na rfl
  obtain ⟨l, ns, rfl, hq, hl, q1⟩ := q1
  cases r1
  have fin : ∀ (h' : Heap) (tk n : Nat) (S : Int → Bool), SetR X.w h' s1.heap.objs.size S n → n < 64 → (∀ k, S k = true ↔ k ∈ ns) → (∀ b o, s1.heap.get? b = some o → h'.get? b = some o) →
      wpAny (model X.prog X.w) X.A (call (.builtin "sorted") [.ref s1.heap.objs.size]) (EP X pins σ Q) X.xe { s1 with heap := h', toks := tk } := fun h' tk n S hS hn hk hkeep => by
    refine sorted_set (s := { s1 with heap := h', toks := tk }) hS (I1.ok.hd hc) hn fun s' p out c ms k1 g1 o1 hz hp hi hlt hmem hlen => ?_
    have e : ms = sset ns := lt_unique hlt (sset_lt ns) fun k => by rw [hmem, hk, mem_sset]
    subst e
    have kall : ∀ b u, s1.heap.get? b = some u → s'.heap.get? b = some u := fun b u e => k1 b u (hkeep b u e)
    have hsz : s1.heap.objs.size ≤ p := by
      obtain ⟨o, _, _, _, ho, _⟩ := hS
      exact Nat.le_trans (Nat.le_of_lt (Heap.lt_size ho)) hz
    have hlen2 : ((sset ns).map V.int).length ≤ sizeLine := by
      rw [List.length_map, hlen, sizeLine_eq]
      omega
    refine ⟨.ref p, upd H1 p (.lst ((sset ns).map V.int)), ?_, rfl, q1 p (I1.hok.fresh hsz)⟩
    have J : Inv X pins σ (upd H1 p (.lst ((sset ns).map V.int))) { s1 with heap := s'.heap, gens := s'.gens, drawn := s'.drawn, toks := s'.toks } :=
      I1.call (ch := []) (Un.laid kall hsz (I1.hok.fresh hsz)) (I1.hok.laid kall hsz ⟨hlen2, out.toList, c, vals_of_ints hi, by rw [Array.toArray_toList]; exact hp⟩) (by rw [g1]; exact I1.bare) (fun _ z => nomatch z)
    have e : s' = { s1 with heap := s'.heap, gens := s'.gens, drawn := s'.drawn, toks := s'.toks } := by
      cases s'
      cases s1
      cases o1
      rfl
    rw [e]
    exact J
  have hi := I1.tuple hq
  obtain ⟨its, rv, pt, hz⟩ := hi
  have hii : IntsAre its.toArray.toList ns := ints_of_vals rv
  refine call_set_tupI ns (I1.ok.hd hc) (show s1.heap.IsTuple l its.toArray from pt) hii (by unfold scanBound; omega) fun h' tk c R1 hcn k => ?_
  refine PyProof.Rows.args_nil ?_
  exact fin h' tk c _ R1 (by omega) (fun k => decide_eq_true_iff) k
end

section
variable {X : Cx} {α β γ δ S W ν : Type} {e a k v o : Expr} {ρ : Env} {L : Ow} {p p2 pos q px apos cpos : Pos} {d : α → PyData} {d' : β → PyData} {dv : ν → PyData} {oc : δ → Oc}
theorem n_sortedSet {o : Option (List Int)} (h : EX X (dT dI) e ρ L o) (hm : X.mg "sorted" = none) (hm2 : X.mg "set" = none) (na : starEach [e] X.env = (false, eval e X.env) :: starEach [] X.env := by rfl)
    (hh : X.mg "sorted" = none → X.mg "set" = none → ∀ {ta}, PE X e ta → PE X (.Call (.Name "sorted" p) [.Call (.Name "set" p2) [e] [] q] [] pos) (tSortSet X.K ta) := by intro hm hm2 _ h; exact pe_sortSet (by rfl) hm (by rfl) hm2 h) :
    EN X dI (.Call (.Name "sorted" p) [.Call (.Name "set" p2) [e] [] q] [] pos) ρ L (o.bind ssetO) := by
  obtain ⟨t, p, h⟩ := h
  refine ⟨_, hh hm hm2 p, fun z hz B F0 σ H vs ds Q s k => ?_⟩
  obtain ⟨xs, hx, hz⟩ := Option.bind_eq_some_iff.mp hz
  unfold ssetO at hz
  split at hz
  rotate_left
  · cases hz
  rename_i hl
  have e : sset xs = z := by simpa using hz
  subst e
  refine h xs hx B F0 σ H vs ds _ s fun v H1 s1 => ?_
  obtain ⟨a, us, rfl, h1, h2, _, h3⟩ := s1.tup1
  rw [List.length_map] at h2
  have e := h3.ints h2
  subst e
  refine ⟨a, xs, rfl, SqT.of h1, hl, fun q hq => k q _ (St.newLst (us := (sset xs).map V.int) (ints_st _ s1.pop) (by simp) hq ?_)⟩
  have hlt : ∀ (xs a : List Int), (xs.foldl (fun a x => insS x a) a).length ≤ xs.length + a.length := by
    intro xs
    induction xs with
    | nil => intro a; simp
    | cons x xs ih =>
      intro a
      rw [List.foldl_cons]
      have h1 := ih (insS x a)
      have h2 : (insS x a).length ≤ a.length + 1 := by
        clear h1
        induction a with
        | nil => simp [insS]
        | cons y ys ih => unfold insS; split; simp; split; simp; simp; omega
      rw [List.length_cons]
      omega
  have := hlt xs []
  rw [List.length_map]
  have h5 : (sset xs).length ≤ xs.length := by simpa [sset] using this
  exact Nat.le_trans (by omega) (sz_of (by decide : 1000 ≤ 1000))
/-- {k: v} -/
theorem e_disp1K {ok : Option Int} {ov : Option ν} (hk : ∀ M, EX X dI k ρ (L ++ M) ok) (hv : ∀ M, EX X dv v ρ (L ++ M) ov) : EO X (odK false dI dv) (.Dict [some k] [v] pos) ρ L (ok.bind fun i => ov.bind fun x => some [(i, x)]) := by
  obtain ⟨tk, pk, hk⟩ := EX.all (S := Ow) (ρf := fun _ => ρ) (Lf := fun M => L ++ M) (k := fun _ => ok) hk
  obtain ⟨tv, pv, hv⟩ := EX.all (S := Ow) (ρf := fun _ => ρ) (Lf := fun M => L ++ M) (k := fun _ => ov) hv
  refine ⟨_, pe_disp (pps_cons pk pv pps_nil) rfl rfl (by simp) (by simp), fun z hz B F0 σ H vs ds Q s q => ?_⟩
  obtain ⟨i, hi, hz⟩ := Option.bind_eq_some_iff.mp hz
  obtain ⟨x, hx, hz⟩ := Option.bind_eq_some_iff.mp hz
  cases hz
  intro p hp
  have s1 : St X.K B F0 ρ (L ++ [(p, odK false dI dv [])]) σ (upd H p (.dK [])) vs ds := by
    obtain ⟨F, ok, sl, sv⟩ := s
    exact ⟨F, ok.alloc hp (Nat.zero_le _) ⟨[], upd_same, .nil⟩, sl, sv⟩
  refine hk _ i hi B F0 σ _ vs ds _ s1 fun u H1 s2 => hv _ x hx B F0 σ H1 _ _ _ s2 fun w H2 s3 => ?_
  have eu : u = .int i := s3.pop.isInt
  subst eu
  obtain ⟨F, ok, sl, sv⟩ := s3
  cases sv with
  | cons r t =>
    cases t with
    | cons r2 t =>
      have m7 : (L ++ [(p, odK false dI dv [])])[L.length]? = some (p, odK false dI dv []) := by simp
      obtain ⟨ws', h1, h2⟩ := ok.at_ m7
      have e0 : ws' = [] := by
        have h3 := Paired.length h2
        exact List.length_eq_zero_iff.mp h3
      subst e0
      refine ⟨h1, [(.inl i, w)], rfl, by simp, q p _ ?_⟩
      have h3 := dr_put (c := kD) (f := fun i : Int => .inl i) (K := X.K) (dv := dv) (fun _ _ => kD_inj) ky_int i r h2
      have k2 := Ok.write (L2 := []) (d' := odK false dI dv [(i, x)]) (o := .dK (mergeK [] [(.inl i, w)])) ok (sz_of (by decide : 1 ≤ 1000)) ⟨_, upd_same, h3⟩
      exact ⟨F, k2, sl, .cons rfl t⟩
theorem b_retMX {Lf : W → Ow} {w : W} {Lr : Ow} {o : Option (α × W)} (g : α × W → δ) (h : EM X d e ρ (fun w => Lf w ++ Lr) w o) (hoc : ∀ a, oc (g a) = .rt (.dat (d a.1)) (Lf a.2)) : BX X [.Return (some e) pos] ρ (Lf w ++ Lr) (o.map g) oc := by
  obtain ⟨t, p, h⟩ := h
  refine ⟨_, pss_one (ps_ret p), fun b hb B F0 σ H vs ds D s q => ?_⟩
  obtain ⟨a, ha, rfl⟩ := Option.map_eq_some_iff.mp hb
  rw [hoc] at q
  exact h a.1 a.2 ha B F0 σ H vs ds _ s fun v H' s' => q v H' s'.part.noslots
theorem s_appendM {Lf : W → Ow} {w0 : W} {xs : List α} {me : Option (α × W)} (j : Nat) {ad : Addr} (hL : ∀ w, (Lf w)[j]? = some (ad, odL d xs)) (ho : ∀ w, ES X o ρ (Lf w) (some (.ptr ad))) (h : EM X d e ρ Lf w0 me) (hs : swapsWith (.Call (.Attribute o "append" apos) [e] [] cpos) none pos.line X.env = pure false := by rfl)
    (hh : ∀ {to te}, PE X o to → PE X e te → PE X (.Call (.Attribute o "append" apos) [e] [] cpos) (tBM X.K "list" rAppend to (tCons te tNil)) := by intro _ _ h1 h2; exact pe_bm PySem.F.plainAttrs_list PySem.F.slot_list_append PySem.F.type_list_append mt_append h1 (pa_cons h2 pa_nil)) :
    SX X (.Expr (.Call (.Attribute o "append" apos) [e] [] cpos) pos) ρ (Lf w0) (me.bind fun x => (appO xs x.1).map fun z => (z, x.2)) (ocn fun ys => (ρ, (Lf ys.2).set j (ad, odL d ys.1))) := by
  obtain ⟨to, po, ho⟩ : ∃ to, PE X o to ∧ ∀ B F0 σ H vs ds Q, St X.K B F0 ρ (Lf w0) σ H vs ds → (∀ v H', St X.K B F0 ρ (Lf w0) σ H' (v :: vs) (.ptr ad :: ds) → Q v H') → to σ H Q := by
    obtain ⟨to, po, ho⟩ := ho w0
    exact ⟨to, po, fun B F0 σ H vs ds Q s k => ho _ rfl B F0 σ H vs ds Q s k⟩
  obtain ⟨te, pe, h⟩ := h
  refine ⟨_, ps_expr (hh po pe) hs, fun ys hy B F0 σ H vs ds D s q => ?_⟩
  obtain ⟨⟨a, w1⟩, ha, hy⟩ := Option.bind_eq_some_iff.mp hy
  obtain ⟨zs, hz, rfl⟩ := Option.map_eq_some_iff.mp hy
  unfold appO at hz
  split at hz
  · rename_i hl
    cases hz
    refine ho B F0 σ H vs ds _ s fun v H1 s1 => ?_
    obtain ⟨us1, g1, _, _, _⟩ := s1.own1 (mem_at (hL w0))
    have ev := s1.isPtr
    subst ev
    refine ⟨.inl ⟨rfl, _, SqL.of g1⟩, h a w1 ha B F0 σ H1 _ _ _ s1 fun u H2 s2 => ?_⟩
    obtain ⟨F, ok, sl, sv⟩ := s2
    obtain ⟨us, g2, g3⟩ := ok.at_ (hL w1)
    have hlen : us.length = xs.length := by rw [Paired.length g3, List.length_map, List.length_map]
    cases sv with
    | cons r t =>
      cases t with
      | cons r2 t =>
        refine ⟨ad, us, u, rfl, rfl, g2, by omega, q _ _ ⟨F, ok.put (hL w1) (d' := odL d (xs ++ [a])) (o := .lst (us ++ [u])) (by show (us ++ [u]).length ≤ sizeLine; rw [List.length_append]; show us.length + 1 ≤ sizeLine; omega) ⟨_, upd_same, ?_⟩, sl, t⟩⟩
        rw [List.map_append, List.map_append]
        exact pr_app g3 (.cons r .nil)
  · cases hz
end
end Mir
namespace Mir
open PySem L2

/-! ### the state of a law's draws -/
abbrev DS := List Int × Int
abbrev LD (s c : Addr) (w : DS) : Ow := [(s, .lst [.ptr c, .dat (dI w.2)]), (c, odL dI w.1)]
def seedM (ns : List Int) : Int := ns.foldl (fun a c => (a * 31 + c) % 1000003) 7
def stateM (ns : List Int) : DS := (ns.map fun c => if c < 0 then -c else c, seedM ns + 1)
def lcg (w : Int) : Int := (w * 48271 + 12345) % 2147483647
noncomputable def drawM (many : Int) (w : DS) : Option (Int × DS) :=
  match w.1.dropWhile (fun c => decide (c = 0)) with
  | [] => (fmodO (lcg w.2 / 64) many).map fun r => (r, ([], lcg w.2))
  | v :: r => (fdivO v many).bind fun q => (fmodO v many).map fun z => (z, (q :: r, w.2))
section
variable {X : Cx} {α β γ δ S W : Type} {e a b c : Expr} {ρ : Env} {L : Ow} {p pos px : Pos} {d : α → PyData} {rest : List Stmt} {oc : δ → Oc}
theorem i_scrL {tg : Expr} {ns : List Int} (h : ES X e ρ L (some (.scr ns))) : IX X tg e ρ L anyL true (fun x => .dat (dI x)) (szO ns.length ns) := by
  obtain ⟨t, p, h⟩ := i_scr (tg := tg) h
  refine ⟨t, p, fun xs hx B F0 σ H vs ds R s k => ?_⟩
  unfold szO at hx
  split at hx
  · rename_i hl
    cases hx
    exact h _ rfl B F0 σ H vs ds R s fun J H1 pv pd a b c d => k J H1 pv pd a (fun _ => hl) c d
  · cases hx
theorem Ok.gain {K : PySem.W.Frag} {B F0 F F' H H' : Hp} {L' : Ow} (k : Ok K B F0 F H []) (k' : Ok K H F F' H' L') : Ok K B F0 F' H' L' := by
  refine ⟨k.up.trans k'.up, k'.le, fun a o e => k'.amb a o (k.amb a o e), fun a o e => ?_, k'.sz, fun q m => ?_, k'.nd⟩
  · rcases k'.new a o e with h | h | h
    · exact k.new a o h
    · exact .inr (.inl (k.amb.free h))
    · exact .inr (.inr h)
  · obtain ⟨a, b, r⟩ := k'.own q m
    exact ⟨a, k.amb.free b, r⟩
/-- what _law_state promises -/
def spS (K : PySem.W.Frag) (m : List Int → Option DS) : Sp := fun vs H Q _ => ∃ ns w F, m ns = some w ∧ Ok K H F F H [] ∧ Paired (SvR K F) vs [.scr ns] ∧ ∀ s c v F' H', Ok K H F F' H' (LD s c w) → SvR K F' v (.ptr s) → Q v H'
theorem Ok.nilL {K : PySem.W.Frag} {B F0 F H : Hp} {L : Ow} (k : Ok K B F0 F H L) : Ok K B F0 F H [] := ⟨k.up, k.le, k.amb, k.new, k.sz, fun _ m => (by cases m), List.nodup_nil⟩
/-- state = _law_state(script) -/
theorem b_state {m : List Int → Option DS} {ns : List Int} {ps : List Str} {x f : Str} {pos2 : Pos} {k j : Nat} {kk : DS → Option δ} (i : Nat) (hN : X.N.Nodup) (G : KnowsX X f k ps (spS X.K m)) (hr : Room j X.A) (ha : ES X e ρ [] (some (.scr ns))) (hrest : ∀ s c w, BX X rest (ρ.set i (some (.ptr s))) (LD s c w) (kk w) oc) (hj : k ≤ j := by decide) (hst : starEach [e] X.env = (false, eval e X.env) :: starEach [] X.env := by rfl)
    (hs : swapsWith (.Call (.Name f p) [e] [] pos) (some (.Name x px)) pos2.line X.env = pure false := by rfl) (hi : X.N[i]? = some x := by rfl) (hx : Loc X.env.scope x := by first | exact Or.inl rfl | exact Or.inr rfl) (hf : X.fn x = true ∨ X.env.scope.names.lookup x = some .local := by first | exact .inl rfl | exact .inr rfl)
    (hh : ∀ {g fd t}, FnOk X.prog X.w X.K X.mg X.base CX0 k g fd ps (spS X.K m) → X.mg f = some (.ref g) → PySem.W.keepIn X.K (.ref g) = true → Binds X.K fd ps [] → Room k X.A → PA X [e] t →
      PE X (.Call (.Name f p) [e] [] pos) (tCall (spS X.K m) [] E0 t) := by intro f fd t h1 h2 h3 h4 h5 h6; exact pe_call h1 h5 (by rfl) h2 h3 h4 .nil pass0 h6) :
    BX X (.Assign [.Name x px] (.Call (.Name f p) [e] [] pos) pos2 :: rest) ρ [] ((m ns).bind kk) oc := by
  obtain ⟨g, fd, h1, h2, h3, h4⟩ := G
  obtain ⟨t, pa, ha⟩ := ha
  have pa1 : PA X [e] (tCons t tNil) := pa_cons pa pa_nil hst
  obtain ⟨t', p', hrest⟩ := BX.all (S := Addr × Addr × DS) (ρf := fun q => ρ.set i (some (.ptr q.1))) (Lf := fun q => LD q.1 q.2.1 q.2.2) (k := fun q => kk q.2.2) fun q => hrest q.1 q.2.1 q.2.2
  refine ⟨_, pss_cons (ps_set hN hi hx (hh h1 h2 h3 h4 (hr.mono hj) pa1) hs hf) p', fun r hz B F0 σ H vs ds D s gd => ?_⟩
  obtain ⟨w, hw, hz⟩ := Option.bind_eq_some_iff.mp hz
  refine ha _ rfl B F0 σ H vs ds _ s fun v H1 s1 => ?_
  obtain ⟨F, ok, sl, sv⟩ := s1
  cases sv with
  | cons r1 t1 =>
    refine ⟨ns, w, F, hw, ok.enter0, .cons r1 .nil, fun s c v F' H' k' rv => ?_⟩
    have s2 : St X.K B F0 ρ (LD s c w) σ H' (v :: vs) (.ptr s :: ds) := ⟨F', ok.gain k', sls_mono k'.up sl, .cons rv (svs_mono k'.up t1)⟩
    exact hrest (s, c, w) r hz B F0 _ _ vs ds D (s2.store i) gd
/-- return [[..], n] -/
theorem b_retLD {o : Option (List Int)} {o2 : Option Int} (h : EN X dI a ρ L o) (h2 : ∀ p xs, EX X dI b ρ (L ++ [(p, odL dI xs)]) o2) (h1 : starEach [a, b] X.env = (false, eval a X.env) :: starEach [b] X.env := by rfl) (h1' : starEach [b] X.env = (false, eval b X.env) :: starEach [] X.env := by rfl) :
    BX X [.Return (some (.List [a, b] p)) pos] ρ L (o.bind fun xs => o2.bind fun n => some (xs, n)) (fun w : DS => .ro fun s c => (.ptr s, LD s c w)) := by
  obtain ⟨ta, pa, h⟩ := h
  obtain ⟨tb, pb, h2⟩ := EX.all (S := Addr × List Int) (ρf := fun _ => ρ) (Lf := fun q => L ++ [(q.1, odL dI q.2)]) (k := fun _ => o2) fun q => h2 q.1 q.2
  refine ⟨_, pss_one (ps_ret (pe_lst (pa_cons pa (pa_cons pb pa_nil h1') h1))), fun w hw B F0 σ H vs ds D s g => ?_⟩
  obtain ⟨xs, hx, hw⟩ := Option.bind_eq_some_iff.mp hw
  obtain ⟨n, hn, hw⟩ := Option.bind_eq_some_iff.mp hw
  cases hw
  refine h xs hx B F0 σ H vs ds _ s fun q H1 s1 => h2 (q, xs) n hn B F0 σ H1 _ _ _ s1 fun u H2 s2 => ⟨sz_of (by decide : 2 ≤ 1000), fun r hr => ?_⟩
  have eu : u = .int n := s2.isInt
  subst eu
  refine g r q _ _ ?_
  have s3 := St.newLst (xs := [.ptr q, .dat (dI n)]) (us := [.ref q, .int n]) s2.swap rfl hr (sz_of (by decide : 2 ≤ 1000))
  obtain ⟨F, ok, sl, sv⟩ := s3
  cases sv with
  | cons r1 t1 =>
    have hne : q ≠ r := by
      have nd := ok.nd
      rw [List.map_append, List.map_append, List.nodup_append] at nd
      exact nd.2.2 q (by simp) r (by simp)
    have o1 := ok.own (q, odL dI xs) (by simp)
    have o2 := ok.own (r, .lst [.ptr q, .dat (dI n)]) (by simp)
    refine ⟨F, ⟨ok.up, ok.le, ok.amb, ok.new, ok.sz, fun z m => ?_, ?_⟩, .nil, .cons rfl t1⟩
    · rcases List.mem_cons.mp m with e | m
      · rw [e]; exact o2
      · have e := List.mem_singleton.mp m
        rw [e]; exact o1
    · simp [Ne.symm hne]
theorem knows_state {P : Program} {w : World} {K : PySem.W.Frag} {mg : Str → Option Value} {base : Heap} {x qual : Str} {st : Stmt} {f : Addr} {fd : FuncData} {N ps : List Str} {k : Nat} {m : List Int → Option DS} (F : Fun K x qual st f fd) (hm : mg x = some (.ref f)) (hb : Binds K fd ps []) (S : FnScope N ps (defScope st)) (hl : 1 = ps.length)
    (body : ∀ (cdv : Value) (A : Around) (outer : List PySem.Env) (s : Shared) (H : Hp) (E : XK), Room k (A.deeper (PyProof.Rows.envOfC qual (defScope st) s.heap.objs.size f cdv)) → ∀ ns, BX (cxOf CX0 P w K mg base N qual (defScope st) f cdv A outer s H E).nox (defBody st) (startE N [.scr ns]) [] (m ns) (fun w : DS => .ro fun s c => (.ptr s, LD s c w))) :
    Knows P w K mg base x (k + 1) ps (spS K m) := by
  refine ⟨f, fd, F.ok S (fun vs H Q E h => ?_) (fun cdv A outer s H vs Q E hr h => ?_), hm, F.kp, hb⟩
  · obtain ⟨ns, w, F', _, _, hv, _⟩ := h
    rw [Paired.length hv]
    exact hl
  · obtain ⟨ns, w', F', hm, ok, hv, q⟩ := h
    obtain ⟨t, p, hb⟩ := body cdv A outer s H E hr ns
    refine ⟨t, p, hb w' hm H F' _ H [] [] _ ⟨F', ok, start_pr hv, .nil⟩ ?_⟩
    rintro s c v H' ⟨F2, ok2, _, sv⟩
    cases sv with
    | cons r2 t2 => exact q s c v F2 H' ok2 r2
theorem loop_drop : ∀ (cs : List Int) (n : Nat), cs.length < n → loopO (fun cs : List Int => if decide ((cs.length : Int) > 0) then (atO cs 0).bind fun u => some (decide (u = 0)) else some false) (fun cs => (popO cs 0).bind fun q => some q.2) n cs = some (cs.dropWhile fun c => decide (c = 0))
  | [], 0, h => by simp at h
  | [], n + 1, h => rfl
  | c :: cs, 0, h => by simp at h
  | c :: cs, n + 1, h => by
    have e1 : atO (c :: cs) 0 = some c := by
      unfold atO atI ixN
      simp
    have e2 : popO (c :: cs) 0 = some (c, cs) := by
      unfold popO
      simp [seqIndex?]
    unfold loopO
    have e3 : decide ((((c :: cs).length : Nat) : Int) > 0) = true := by simp
    simp only [e3, if_true, e1, Option.bind_some]
    by_cases h0 : c = 0
    · subst h0
      simp only [decide_true, if_true, e2, Option.bind_some, List.dropWhile_cons]
      exact loop_drop cs n (by simpa using h)
    · simp only [h0, decide_false, if_false, Bool.false_eq_true, List.dropWhile_cons]
noncomputable def tupO {α : Type} (xs : List α) : Option (List α) := szO xs.length xs
/-- what _law_draw's text comes to -/
noncomputable def drawT (many : Int) (w : DS) : Option (Int × DS) :=
  (loopO (fun cs : List Int => if decide ((cs.length : Int) > 0) then (atO cs 0).bind fun u => some (decide (u = 0)) else some false) (fun cs => (popO cs 0).bind fun q => some q.2) (w.1.length + 1) w.1).bind fun cs =>
    if decide ((cs.length : Int) > 0) then (atO cs 0).bind fun v => ((fdivO v many).bind fun q => setO cs 0 q).bind fun cs2 => (fmodO v many).map fun z => (z, (cs2, w.2))
    else (fmodO (lcg w.2 / 64) many).map fun z => (z, (cs, lcg w.2))
theorem draw_eq (many : Int) (w : DS) : drawT many w = drawM many w := by
  unfold drawT drawM
  rw [loop_drop _ _ (Nat.lt_succ_self _), Option.bind_some]
  cases w.1.dropWhile fun c => decide (c = 0) with
  | nil => simp
  | cons v r =>
    have e1 : atO (v :: r) 0 = some v := by
      unfold atO atI ixN
      simp
    have e2 : ∀ q, setO (v :: r) 0 q = some (q :: r) := fun q => by
      unfold setO ixN
      simp
    have e3 : decide ((((v :: r).length : Nat) : Int) > 0) = true := by simp
    simp only [e3, if_true, e1, Option.bind_some, e2]
    cases fdivO v many <;> simp
/-- _law_pick -/
noncomputable def pickM {α : Type} (row : List α) (w : DS) : Option (α × DS) := (drawM row.length w).bind fun v => (atO row v.1).map fun z => (z, v.2)
end
end Mir
namespace Mir
open PySem L2
section
variable {X : Cx} {α β γ δ S W ν : Type} {e a b c k v o : Expr} {ρ : Env} {L : Ow} {p p2 pos q px apos cpos : Pos} {d : α → PyData} {d' : β → PyData} {f : γ → PyData} {dv : ν → PyData} {oc : δ → Oc} {rest A A' : List Stmt}
theorem pip_of {op : Operator} {r : R2} (h : OpR X (inplaceOp op) r) : PIp X op r := fun pins s σ H x y v u Q I rx ry q => h pins s σ H x y v u Q I rx ry q
/-- x op= e -/
theorem s_aug {op : Operator} {r : R2} {g : α → β → Option α} {ob : Option β} {x : α} (i : Nat) {y : Str} {pos' : Pos} (hN : X.N.Nodup) (ho : OpR X (inplaceOp op) r) (hg : Op2 X.K r d d' d g) (hρ : ρ[i]? = some (some (.dat (d x)))) (h : EX X d' e ρ L ob) (hi : X.N[i]? = some y := by rfl) (hx : Loc X.env.scope y := by first | exact Or.inl rfl | exact Or.inr rfl) (hf : X.fn y = true ∨ X.env.scope.names.lookup y = some .local := by first | exact .inl rfl | exact .inr rfl) :
    SX X (.AugAssign (.Name y pos') op e pos) ρ L (ob.bind fun z => g x z) (ocn fun z => (ρ.set i (some (.dat (d z))), L)) := by
  obtain ⟨t, p, h⟩ := h
  refine ⟨_, ps_aug hN hi hx p (pip_of ho) hf, fun z hz B F0 σ H vs ds D s q => ?_⟩
  obtain ⟨b, hb, hz⟩ := Option.bind_eq_some_iff.mp hz
  obtain ⟨F, ok, sl, sv⟩ := id s
  obtain ⟨v, h1, r1⟩ := pr_at sl hρ
  have s1 : St X.K B F0 ρ L σ H (v :: vs) (.dat (d x) :: ds) := ⟨F, ok, sl, .cons r1 sv⟩
  exact ⟨v, h1, h b hb B F0 σ H _ _ _ s1 fun u H2 s2 => hg x b z hz B F0 ρ L σ H2 vs ds v u _ s2 fun w H3 s3 => q _ _ (s3.store i)⟩
/-- xs + ys, the second by what turns the world -/
theorem m_cat {Lf : W → Ow} {w : W} {oa : Option (List α)} {mb : Option (List α × W)} (ha : EX X (dL d) a ρ (Lf w) oa) (hb : EM X (dL d) b ρ Lf w mb) :
    EM X (dL d) (.BinOp a .Add b pos) ρ Lf w (oa.bind fun xs => mb.bind fun y => (catO xs y.1).map fun z => (z, y.2)) := by
  obtain ⟨ta, pa, ha⟩ := ha
  obtain ⟨tb, pb, hb⟩ := hb
  refine ⟨_, pe_op op_cat pa pb, fun z w3 hz B F0 σ H vs ds Q s k => ?_⟩
  obtain ⟨x, hx, hz⟩ := Option.bind_eq_some_iff.mp hz
  obtain ⟨⟨y, w2⟩, hy, hz⟩ := Option.bind_eq_some_iff.mp hz
  obtain ⟨z', hz', e⟩ := Option.map_eq_some_iff.mp hz
  injection e with e1 e2
  subst e1 e2
  unfold catO szO at hz'
  split at hz'
  · rename_i hl
    have hl : x.length + y.length ≤ sizeLine := hl
    have e : x ++ y = z' := by simpa using hz'
    subst e
    refine ha x hx B F0 σ H vs ds _ s fun v H1 s1 => hb y w2 hy B F0 σ H1 _ _ _ s1 fun u H2 s2 => ?_
    obtain ⟨F, ok, sl1, sv⟩ := id s2
    cases sv with
    | cons r1 t =>
      cases t with
      | cons r2 t =>
        cases (show Rp F _ (.list (y.map d)) from r1) with
        | @lst p2 us2 _ g1 g2 =>
          cases (show Rp F _ (.list (x.map d)) from r2) with
          | @lst p1 us1 _ g3 g4 =>
            have l1 := g4.length
            have l2 := g2.length
            rw [List.length_map] at l1 l2
            refine ⟨p1, p2, us1, us2, rfl, rfl, ok.le _ _ g3, ok.le _ _ g1, by omega, fun p hp => k _ _ ?_⟩
            have s3 := St.newLst (xs := ((x ++ y).map d).map .dat) (us := us1 ++ us2) (vs := vs) (ds := ds) (K := X.K) (B := B) (F0 := F0) (ρ := ρ) (L := Lf w2) (σ := σ) (H := H2) ⟨F, ok, sl1, by rw [List.map_append, List.map_append]; exact pr_app (pr_app (dats_of g4) (dats_of g2)) t⟩ (by rw [List.length_append, List.length_map, List.length_map, List.length_append]; omega) hp (by rw [List.length_append]; omega)
            have s4 := St.frz (L2 := []) s3
            rw [List.append_nil] at s4
            exact s4
  · cases hz'
end
end Mir
namespace Mir
open PySem L2
/-- the script as a parameter -/
def encR {β : Type} (enc : β → List Sl) (p : List Int × β) : List Sl := .scr p.1 :: enc p.2
/-! ### data whose kind is not known -/
def tyD : PyData → String
  | .none => "NoneType"
  | .bool _ => "bool"
  | .int _ => "int"
  | .str _ => "str"
  | .list _ => "list"
  | .tuple _ => "tuple"
  | .dict _ => "dict"
def isListD : PyData → Bool
  | .list _ => true
  | _ => false
def isTupleD : PyData → Bool
  | .tuple _ => true
  | _ => false
def isStrD : PyData → Bool
  | .str _ => true
  | _ => false
def isBoolD : PyData → Bool
  | .bool _ => true
  | _ => false
def isIntD : PyData → Bool
  | .bool _ => true
  | .int _ => true
  | _ => false
def isNoneD : PyData → Bool
  | .none => true
  | _ => false
def seqD : PyData → Option (List PyData)
  | .list xs => some xs
  | .tuple xs => some xs
  | _ => none
noncomputable def eqvO (a b : PyData) : Option Bool := @ite _ ((SeqAt.shaped a && SeqAt.shaped b) = true) (Classical.propDecidable _) (some (PyData.eqv a b)) none
theorem ty_list : ∀ d, kitB (tyD d) "list" = some (isListD d) := by
  intro d
  cases d <;> simp only [tyD, isListD] <;> decide +kernel
theorem ty_tuple : ∀ d, kitB (tyD d) "tuple" = some (isTupleD d) := by
  intro d
  cases d <;> simp only [tyD, isTupleD] <;> decide +kernel
theorem ty_str : ∀ d, kitB (tyD d) "str" = some (isStrD d) := by
  intro d
  cases d <;> simp only [tyD, isStrD] <;> decide +kernel
theorem ty_bool : ∀ d, kitB (tyD d) "bool" = some (isBoolD d) := by
  intro d
  cases d <;> simp only [tyD, isBoolD] <;> decide +kernel
theorem ty_int : ∀ d, kitB (tyD d) "int" = some (isIntD d) := by
  intro d
  cases d <;> simp only [tyD, isIntD] <;> decide +kernel
theorem Rp.ty {K : PySem.W.Frag} {F H : Hp} {v : V} {d : PyData} (h : Rp F v d) (e : Same F H) : TyX K H v (.type (tyD d)) := by
  cases h with
  | non => exact .base .non
  | bl b => exact .base (.bl b)
  | int i => exact .base (.int i)
  | str x => exact .base (.str x)
  | lst h _ => exact .base (.lst (e _ _ h))
  | tup h _ => exact .base (.tup (e _ _ h))
section
variable {X : Cx} {e a b : Expr} {ρ : Env} {L : Ow} {p p2 pos : Pos}
theorem x_isD {o : Option PyData} {T : String} {x : Str} {fb : PyData → Bool} (hf : ∀ d, kitB (tyD d) T = some (fb d)) (h : EX X dD e ρ L o) (hm : X.mg "isinstance" = none) (hm2 : X.mg x = none) (hb : bootBuiltins x = some (.type T)) (hg2 : Gl X x := by rfl)
    (hs : starEach [e, .Name x p2] X.env = (false, eval e X.env) :: starEach [.Name x p2] X.env := by rfl) (hs2 : starEach [.Name x p2] X.env = (false, eval (.Name x p2) X.env) :: starEach [] X.env := by rfl)
    (hp : Gl X x → X.mg x = none → bootBuiltins x = some (.type T) → PE X (.Name x p2) (tC (.ty T)) := by intro g m b; exact pe_bltn (v := .ty _) g m b rfl)
    (hh : X.mg "isinstance" = none → ∀ {t}, PA X [e, .Name x p2] t → PE X (.Call (.Name "isinstance" p) [e, .Name x p2] [] pos) (tCB (rIsi X.K) t) := by intro hm _ h; exact pe_callB call_isi (by rfl) hm (by decide +kernel) h) :
    EX X dB (.Call (.Name "isinstance" p) [e, .Name x p2] [] pos) ρ L (o.map fb) := by
  obtain ⟨t, q, h⟩ := h
  refine ⟨_, hh hm (pa_cons q (pa_cons (hp hg2 hm2 hb) pa_nil hs2) hs), fun z hz B F0 σ H vs ds Q s k => ?_⟩
  obtain ⟨y, hy, rfl⟩ := Option.map_eq_some_iff.mp hz
  refine h y hy B F0 σ H vs ds _ s fun v H1 s1 => ?_
  obtain ⟨F, ok, sl, sv⟩ := id s1
  cases sv with
  | cons r _ => exact ⟨v, .ty T, .type (tyD y), .type T, fb y, rfl, .ty T, Rp.ty r ok.le, hf y, k _ _ s1.pop.bl⟩
theorem EX.qd {o : Option PyData} (h : EX X dD e ρ L o) : QX X dD e ρ L (o.bind seqD) := by
  obtain ⟨t, p, h⟩ := h
  refine ⟨t, p, fun xs hx B F0 σ H vs ds Q s k => ?_⟩
  obtain ⟨y, hy, hx⟩ := Option.bind_eq_some_iff.mp hx
  refine h y hy B F0 σ H vs ds _ s fun v H1 s1 => ?_
  have e0 : xs.map dD = xs := by
    show xs.map (fun x => x) = xs
    exact List.map_id' xs
  cases y with
  | list ys => cases hx; exact k v _ H1 (by rw [e0]; exact .lst _) s1
  | tuple ys => cases hx; exact k v _ H1 (by rw [e0]; exact .tup _) s1
  | _ => cases hx
theorem o_eqDD {K : PySem.W.Frag} : Op2 K (rEqD K) dD dD dB eqvO := by
  intro a b z hz B F0 ρ L σ H vs ds v u Q s k
  unfold eqvO at hz
  split at hz
  · rename_i hc
    rw [Bool.and_eq_true] at hc
    cases hz
    obtain ⟨F, ok, sl, sv⟩ := id s
    cases sv with
    | cons r1 t =>
      cases t with
      | cons r2 t => exact ⟨a, b, Rp.dp ok.le _ _ r2, Rp.dp ok.le _ _ r1, hc.1, hc.2, k _ _ s.pop.pop.bl⟩
  · cases hz
theorem o_isND {K : PySem.W.Frag} : Op2 K (fun x y H Q => y = .non ∧ Q (.bl (decide (x = .non))) H) dD dN dB (fun a _ => some (isNoneD a)) := by
  intro a b z hz B F0 ρ L σ H vs ds v u Q s k
  cases hz
  refine ⟨s.isNon, ?_⟩
  obtain ⟨F, ok, sl, sv⟩ := id s.pop
  cases sv with
  | cons r t =>
    have e : decide (v = .non) = isNoneD a := by
      have r' : Rp F v a := r
      cases r' <;> simp [isNoneD]
    rw [e]
    exact k _ _ s.pop.pop.bl
end

section
variable {X : Cx} {α β γ : Type} {a b c : Expr} {ρ : Env} {L : Ow} {pos : Pos} {d : α → PyData} {d' : β → PyData} {f : γ → PyData}
theorem t_chainP {op op' : CmpOp} {r r' : R2} {g : α → β → Bool} {g' : β → γ → Bool} {x : α} {y : β} {z2 : γ} (ho : OpR X (compareOp op) r) (ho' : OpR X (compareOp op') r') (hg : Op2 X.K r d d' dB (fun a b => some (g a b))) (hg' : Op2 X.K r' d' f dB (fun a b => some (g' a b)))
    (ha : EX X d a ρ L (some x)) (hb : EX X d' b ρ L (some y)) (hc : EX X f c ρ L (some z2)) (p : OpR X (compareOp op) r → OpR X (compareOp op') r' → ∀ {ta tb tc}, PE X a ta → PE X b tb → PE X c tc → PT X (.Compare a [op, op'] [b, c] pos) (tTest (tChain r r' ta tb tc)) := by intro ho ho' _ _ _ h1 h2 h3; exact pt_chain ho ho' h1 h2 h3) :
    TX X (.Compare a [op, op'] [b, c] pos) ρ L (some (g x y && g' y z2)) := by
  obtain ⟨ta, pa, ha⟩ := ha
  obtain ⟨tb, pb, hb⟩ := hb
  obtain ⟨tc, pc, hc⟩ := hc
  refine ⟨_, p ho ho' pa pb pc, fun z hz B F0 σ H vs ds Q s k => ?_⟩
  cases hz
  refine ha x rfl B F0 σ H vs ds _ s fun v H1 s1 => hb y rfl B F0 σ H1 _ _ _ s1 fun u H2 s2 => ?_
  have s2' : St X.K B F0 ρ L σ H2 (u :: v :: u :: vs) (.dat (d' y) :: .dat (d x) :: .dat (d' y) :: ds) := s2.stack fun F r => by
    cases r with | cons r1 t => cases t with | cons r2 t => exact .cons r1 (.cons r2 (.cons r1 t))
  refine hg x y _ rfl B F0 ρ L σ H2 _ _ v u _ s2' fun w H3 s3 => ⟨_, s3.isBl, ?_⟩
  cases hk : g x y with
  | true =>
    refine iteT (hc z2 rfl B F0 σ H3 _ _ _ s3.pop fun w2 H4 s4 => hg' y z2 _ rfl B F0 ρ L σ H4 vs ds u w2 _ s4 fun w3 H5 s5 => ⟨g' y z2, s5.isBl, ?_⟩)
    rw [hk, Bool.true_and] at k
    exact k _ s5.pop
  | false =>
    rw [hk, Bool.false_and] at k
    exact iteF ⟨false, rfl, k _ s3.pop.pop⟩
end

/-! ### arguments one by one -/
section
variable {β : Type} {W : Type}
theorem ca1 {α1 : Type} (o1 : Option α1) (m : α1 × Unit → Option β) : (((o1).bind fun x => (some ()).bind fun y => some (x, y)).bind m) = o1.bind fun x1 => m (x1, ()) := by
  cases o1 <;> rfl
theorem cw1 {α1 : Type} (o1 : Option α1) (w : W) (m : α1 × Unit → W → Option β) : ((((o1).bind fun x => (some ()).bind fun y => some (x, y)).map fun a => (a, w)).bind fun q => m q.1 q.2) = o1.bind fun x1 => m (x1, ()) w := by
  cases o1 <;> rfl
theorem cl1 (o1 : Option β) : ((o1).bind fun x => (some []).bind fun y => some (x :: y)) = o1.bind fun x1 => some [x1] := by
  cases o1 <;> rfl
theorem ca2 {α1 α2 : Type} (o1 : Option α1) (o2 : Option α2) (m : α1 × α2 × Unit → Option β) : (((o1).bind fun x => ((o2).bind fun x => (some ()).bind fun y => some (x, y)).bind fun y => some (x, y)).bind m) = o1.bind fun x1 => o2.bind fun x2 => m (x1, x2, ()) := by
  cases o1 <;> cases o2 <;> rfl
theorem cw2 {α1 α2 : Type} (o1 : Option α1) (o2 : Option α2) (w : W) (m : α1 × α2 × Unit → W → Option β) : ((((o1).bind fun x => ((o2).bind fun x => (some ()).bind fun y => some (x, y)).bind fun y => some (x, y)).map fun a => (a, w)).bind fun q => m q.1 q.2) = o1.bind fun x1 => o2.bind fun x2 => m (x1, x2, ()) w := by
  cases o1 <;> cases o2 <;> rfl
theorem cl2 (o1 : Option β) (o2 : Option β) : ((o1).bind fun x => ((o2).bind fun x => (some []).bind fun y => some (x :: y)).bind fun y => some (x :: y)) = o1.bind fun x1 => o2.bind fun x2 => some [x1, x2] := by
  cases o1 <;> cases o2 <;> rfl
theorem ca3 {α1 α2 α3 : Type} (o1 : Option α1) (o2 : Option α2) (o3 : Option α3) (m : α1 × α2 × α3 × Unit → Option β) : (((o1).bind fun x => ((o2).bind fun x => ((o3).bind fun x => (some ()).bind fun y => some (x, y)).bind fun y => some (x, y)).bind fun y => some (x, y)).bind m) = o1.bind fun x1 => o2.bind fun x2 => o3.bind fun x3 => m (x1, x2, x3, ()) := by
  cases o1 <;> cases o2 <;> cases o3 <;> rfl
theorem cw3 {α1 α2 α3 : Type} (o1 : Option α1) (o2 : Option α2) (o3 : Option α3) (w : W) (m : α1 × α2 × α3 × Unit → W → Option β) : ((((o1).bind fun x => ((o2).bind fun x => ((o3).bind fun x => (some ()).bind fun y => some (x, y)).bind fun y => some (x, y)).bind fun y => some (x, y)).map fun a => (a, w)).bind fun q => m q.1 q.2) = o1.bind fun x1 => o2.bind fun x2 => o3.bind fun x3 => m (x1, x2, x3, ()) w := by
  cases o1 <;> cases o2 <;> cases o3 <;> rfl
theorem cl3 (o1 : Option β) (o2 : Option β) (o3 : Option β) : ((o1).bind fun x => ((o2).bind fun x => ((o3).bind fun x => (some []).bind fun y => some (x :: y)).bind fun y => some (x :: y)).bind fun y => some (x :: y)) = o1.bind fun x1 => o2.bind fun x2 => o3.bind fun x3 => some [x1, x2, x3] := by
  cases o1 <;> cases o2 <;> cases o3 <;> rfl
theorem ca4 {α1 α2 α3 α4 : Type} (o1 : Option α1) (o2 : Option α2) (o3 : Option α3) (o4 : Option α4) (m : α1 × α2 × α3 × α4 × Unit → Option β) : (((o1).bind fun x => ((o2).bind fun x => ((o3).bind fun x => ((o4).bind fun x => (some ()).bind fun y => some (x, y)).bind fun y => some (x, y)).bind fun y => some (x, y)).bind fun y => some (x, y)).bind m) = o1.bind fun x1 => o2.bind fun x2 => o3.bind fun x3 => o4.bind fun x4 => m (x1, x2, x3, x4, ()) := by
  cases o1 <;> cases o2 <;> cases o3 <;> cases o4 <;> rfl
theorem cw4 {α1 α2 α3 α4 : Type} (o1 : Option α1) (o2 : Option α2) (o3 : Option α3) (o4 : Option α4) (w : W) (m : α1 × α2 × α3 × α4 × Unit → W → Option β) : ((((o1).bind fun x => ((o2).bind fun x => ((o3).bind fun x => ((o4).bind fun x => (some ()).bind fun y => some (x, y)).bind fun y => some (x, y)).bind fun y => some (x, y)).bind fun y => some (x, y)).map fun a => (a, w)).bind fun q => m q.1 q.2) = o1.bind fun x1 => o2.bind fun x2 => o3.bind fun x3 => o4.bind fun x4 => m (x1, x2, x3, x4, ()) w := by
  cases o1 <;> cases o2 <;> cases o3 <;> cases o4 <;> rfl
theorem cl4 (o1 : Option β) (o2 : Option β) (o3 : Option β) (o4 : Option β) : ((o1).bind fun x => ((o2).bind fun x => ((o3).bind fun x => ((o4).bind fun x => (some []).bind fun y => some (x :: y)).bind fun y => some (x :: y)).bind fun y => some (x :: y)).bind fun y => some (x :: y)) = o1.bind fun x1 => o2.bind fun x2 => o3.bind fun x3 => o4.bind fun x4 => some [x1, x2, x3, x4] := by
  cases o1 <;> cases o2 <;> cases o3 <;> cases o4 <;> rfl
theorem ca5 {α1 α2 α3 α4 α5 : Type} (o1 : Option α1) (o2 : Option α2) (o3 : Option α3) (o4 : Option α4) (o5 : Option α5) (m : α1 × α2 × α3 × α4 × α5 × Unit → Option β) : (((o1).bind fun x => ((o2).bind fun x => ((o3).bind fun x => ((o4).bind fun x => ((o5).bind fun x => (some ()).bind fun y => some (x, y)).bind fun y => some (x, y)).bind fun y => some (x, y)).bind fun y => some (x, y)).bind fun y => some (x, y)).bind m) = o1.bind fun x1 => o2.bind fun x2 => o3.bind fun x3 => o4.bind fun x4 => o5.bind fun x5 => m (x1, x2, x3, x4, x5, ()) := by
  cases o1 <;> cases o2 <;> cases o3 <;> cases o4 <;> cases o5 <;> rfl
theorem cw5 {α1 α2 α3 α4 α5 : Type} (o1 : Option α1) (o2 : Option α2) (o3 : Option α3) (o4 : Option α4) (o5 : Option α5) (w : W) (m : α1 × α2 × α3 × α4 × α5 × Unit → W → Option β) : ((((o1).bind fun x => ((o2).bind fun x => ((o3).bind fun x => ((o4).bind fun x => ((o5).bind fun x => (some ()).bind fun y => some (x, y)).bind fun y => some (x, y)).bind fun y => some (x, y)).bind fun y => some (x, y)).bind fun y => some (x, y)).map fun a => (a, w)).bind fun q => m q.1 q.2) = o1.bind fun x1 => o2.bind fun x2 => o3.bind fun x3 => o4.bind fun x4 => o5.bind fun x5 => m (x1, x2, x3, x4, x5, ()) w := by
  cases o1 <;> cases o2 <;> cases o3 <;> cases o4 <;> cases o5 <;> rfl
theorem cl5 (o1 : Option β) (o2 : Option β) (o3 : Option β) (o4 : Option β) (o5 : Option β) : ((o1).bind fun x => ((o2).bind fun x => ((o3).bind fun x => ((o4).bind fun x => ((o5).bind fun x => (some []).bind fun y => some (x :: y)).bind fun y => some (x :: y)).bind fun y => some (x :: y)).bind fun y => some (x :: y)).bind fun y => some (x :: y)) = o1.bind fun x1 => o2.bind fun x2 => o3.bind fun x3 => o4.bind fun x4 => o5.bind fun x5 => some [x1, x2, x3, x4, x5] := by
  cases o1 <;> cases o2 <;> cases o3 <;> cases o4 <;> cases o5 <;> rfl
theorem ca6 {α1 α2 α3 α4 α5 α6 : Type} (o1 : Option α1) (o2 : Option α2) (o3 : Option α3) (o4 : Option α4) (o5 : Option α5) (o6 : Option α6) (m : α1 × α2 × α3 × α4 × α5 × α6 × Unit → Option β) : (((o1).bind fun x => ((o2).bind fun x => ((o3).bind fun x => ((o4).bind fun x => ((o5).bind fun x => ((o6).bind fun x => (some ()).bind fun y => some (x, y)).bind fun y => some (x, y)).bind fun y => some (x, y)).bind fun y => some (x, y)).bind fun y => some (x, y)).bind fun y => some (x, y)).bind m) = o1.bind fun x1 => o2.bind fun x2 => o3.bind fun x3 => o4.bind fun x4 => o5.bind fun x5 => o6.bind fun x6 => m (x1, x2, x3, x4, x5, x6, ()) := by
  cases o1 <;> cases o2 <;> cases o3 <;> cases o4 <;> cases o5 <;> cases o6 <;> rfl
theorem cw6 {α1 α2 α3 α4 α5 α6 : Type} (o1 : Option α1) (o2 : Option α2) (o3 : Option α3) (o4 : Option α4) (o5 : Option α5) (o6 : Option α6) (w : W) (m : α1 × α2 × α3 × α4 × α5 × α6 × Unit → W → Option β) : ((((o1).bind fun x => ((o2).bind fun x => ((o3).bind fun x => ((o4).bind fun x => ((o5).bind fun x => ((o6).bind fun x => (some ()).bind fun y => some (x, y)).bind fun y => some (x, y)).bind fun y => some (x, y)).bind fun y => some (x, y)).bind fun y => some (x, y)).bind fun y => some (x, y)).map fun a => (a, w)).bind fun q => m q.1 q.2) = o1.bind fun x1 => o2.bind fun x2 => o3.bind fun x3 => o4.bind fun x4 => o5.bind fun x5 => o6.bind fun x6 => m (x1, x2, x3, x4, x5, x6, ()) w := by
  cases o1 <;> cases o2 <;> cases o3 <;> cases o4 <;> cases o5 <;> cases o6 <;> rfl
theorem cl6 (o1 : Option β) (o2 : Option β) (o3 : Option β) (o4 : Option β) (o5 : Option β) (o6 : Option β) : ((o1).bind fun x => ((o2).bind fun x => ((o3).bind fun x => ((o4).bind fun x => ((o5).bind fun x => ((o6).bind fun x => (some []).bind fun y => some (x :: y)).bind fun y => some (x :: y)).bind fun y => some (x :: y)).bind fun y => some (x :: y)).bind fun y => some (x :: y)).bind fun y => some (x :: y)) = o1.bind fun x1 => o2.bind fun x2 => o3.bind fun x3 => o4.bind fun x4 => o5.bind fun x5 => o6.bind fun x6 => some [x1, x2, x3, x4, x5, x6] := by
  cases o1 <;> cases o2 <;> cases o3 <;> cases o4 <;> cases o5 <;> cases o6 <;> rfl
theorem ca7 {α1 α2 α3 α4 α5 α6 α7 : Type} (o1 : Option α1) (o2 : Option α2) (o3 : Option α3) (o4 : Option α4) (o5 : Option α5) (o6 : Option α6) (o7 : Option α7) (m : α1 × α2 × α3 × α4 × α5 × α6 × α7 × Unit → Option β) : (((o1).bind fun x => ((o2).bind fun x => ((o3).bind fun x => ((o4).bind fun x => ((o5).bind fun x => ((o6).bind fun x => ((o7).bind fun x => (some ()).bind fun y => some (x, y)).bind fun y => some (x, y)).bind fun y => some (x, y)).bind fun y => some (x, y)).bind fun y => some (x, y)).bind fun y => some (x, y)).bind fun y => some (x, y)).bind m) = o1.bind fun x1 => o2.bind fun x2 => o3.bind fun x3 => o4.bind fun x4 => o5.bind fun x5 => o6.bind fun x6 => o7.bind fun x7 => m (x1, x2, x3, x4, x5, x6, x7, ()) := by
  cases o1 <;> cases o2 <;> cases o3 <;> cases o4 <;> cases o5 <;> cases o6 <;> cases o7 <;> rfl
theorem cw7 {α1 α2 α3 α4 α5 α6 α7 : Type} (o1 : Option α1) (o2 : Option α2) (o3 : Option α3) (o4 : Option α4) (o5 : Option α5) (o6 : Option α6) (o7 : Option α7) (w : W) (m : α1 × α2 × α3 × α4 × α5 × α6 × α7 × Unit → W → Option β) : ((((o1).bind fun x => ((o2).bind fun x => ((o3).bind fun x => ((o4).bind fun x => ((o5).bind fun x => ((o6).bind fun x => ((o7).bind fun x => (some ()).bind fun y => some (x, y)).bind fun y => some (x, y)).bind fun y => some (x, y)).bind fun y => some (x, y)).bind fun y => some (x, y)).bind fun y => some (x, y)).bind fun y => some (x, y)).map fun a => (a, w)).bind fun q => m q.1 q.2) = o1.bind fun x1 => o2.bind fun x2 => o3.bind fun x3 => o4.bind fun x4 => o5.bind fun x5 => o6.bind fun x6 => o7.bind fun x7 => m (x1, x2, x3, x4, x5, x6, x7, ()) w := by
  cases o1 <;> cases o2 <;> cases o3 <;> cases o4 <;> cases o5 <;> cases o6 <;> cases o7 <;> rfl
theorem cl7 (o1 : Option β) (o2 : Option β) (o3 : Option β) (o4 : Option β) (o5 : Option β) (o6 : Option β) (o7 : Option β) : ((o1).bind fun x => ((o2).bind fun x => ((o3).bind fun x => ((o4).bind fun x => ((o5).bind fun x => ((o6).bind fun x => ((o7).bind fun x => (some []).bind fun y => some (x :: y)).bind fun y => some (x :: y)).bind fun y => some (x :: y)).bind fun y => some (x :: y)).bind fun y => some (x :: y)).bind fun y => some (x :: y)).bind fun y => some (x :: y)) = o1.bind fun x1 => o2.bind fun x2 => o3.bind fun x3 => o4.bind fun x4 => o5.bind fun x5 => o6.bind fun x6 => o7.bind fun x7 => some [x1, x2, x3, x4, x5, x6, x7] := by
  cases o1 <;> cases o2 <;> cases o3 <;> cases o4 <;> cases o5 <;> cases o6 <;> cases o7 <;> rfl
end
end Mir
namespace Mir
open PySem L2
section
variable {X : Cx} {α β γ S W : Type} {a b c e : Expr} {ρ ρ' : Env} {L : Ow} {pos px py pz pt pt2 : Pos} {kt k2 : Nat} {d : α → PyData} {d' : β → PyData} {f : γ → PyData} {x y z : Str} {rest : List Stmt} {δ : Type} {oc : δ → Oc}
/-- x, y = a, b in a world that turns -/
theorem s_parM {Lf : W → Ow} {w : W} {ma : Option (α × W)} {mb : α → W → Option (β × W)} (i j : Nat) (hc : X.calm = true) (hN : X.N.Nodup) (ha : EM X d a ρ Lf w ma) (hb : ∀ x w1, EM X d' b ρ Lf w1 (mb x w1)) (hij : i ≠ j := by decide) (hi : X.N[i]? = some x := by rfl) (hj : X.N[j]? = some y := by rfl)
    (hx : X.env.scope.names.lookup x = some .local := by rfl) (hy : X.env.scope.names.lookup y = some .local := by rfl) (h1 : starEach [a, b] X.env = (false, eval a X.env) :: starEach [b] X.env := by rfl) (h2 : starEach [b] X.env = (false, eval b X.env) :: starEach [] X.env := by rfl)
    (hw : swappedStores [.Tuple [.Name x px, .Name y py] kt pt] (.Tuple [a, b] k2 pt2) X.env = pure (some [x, y]) := by rfl)
    (hs : swapsWithSole [.Tuple [.Name x px, .Name y py] kt pt] (.Tuple [a, b] k2 pt2) pos.line X.env = pure false := by rfl) :
    SX X (.Assign [.Tuple [.Name x px, .Name y py] kt pt] (.Tuple [a, b] k2 pt2) pos) ρ (Lf w) (ma.bind fun u => (mb u.1 u.2).bind fun v => some ((u.1, v.1), v.2)) (ocn fun q => ((ρ.set i (some (.dat (d q.1.1)))).set j (some (.dat (d' q.1.2))), Lf q.2)) := by
  obtain ⟨ta, pa, ha⟩ := ha
  obtain ⟨tb, pb, hb⟩ := EM.all (S := α × W) (ρf := fun _ => ρ) (wf := fun q => q.2) (k := fun q => mb q.1 q.2) fun q => hb q.1 q.2
  refine ⟨_, ps_par hc hN hi hj hij hx hy (pa_cons pa (pa_cons pb pa_nil h2) h1) hw hs, fun q hq B F0 σ H vs ds D s g => ?_⟩
  obtain ⟨⟨u, w1⟩, hu, hq⟩ := Option.bind_eq_some_iff.mp hq
  obtain ⟨⟨v, w2⟩, hv, hq⟩ := Option.bind_eq_some_iff.mp hq
  cases hq
  refine ha u w1 hu B F0 σ H vs ds _ s fun x1 H1 s1 => hb (u, w1) v w2 hv B F0 σ H1 _ _ _ s1 fun y1 H2 s2 => ⟨x1, y1, rfl, g _ _ ?_⟩
  exact St.store j (St.store i s2.swap)
end

/-! ### the law itself, and the end -/
theorem fnok_fn {P : Program} {w : World} {K : PySem.W.Frag} {mg : Str → Option Value} {base : Heap} {α β : Type} {x qual : Str} {st : Stmt} {f : Addr} {fd : FuncData} {N ps : List Str} {k : Nat} {enc : α → List Sl} {dR : β → PyData} {m : α → Option β} (F : Fun K x qual st f fd) (S : FnScope N ps (defScope st)) (hl : ∀ a, (enc a).length = ps.length)
    (body : ∀ (cdv : Value) (A : Around) (outer : List PySem.Env) (s : Shared) (H : Hp) (E : XK), Room k (A.deeper (PyProof.Rows.envOfC qual (defScope st) s.heap.objs.size f cdv)) → ∀ a, BX (cxOf CX0 P w K mg base N qual (defScope st) f cdv A outer s H E).nox (defBody st) (startE N (enc a)) [] (m a) (ocr fun r => (.dat (dR r), []))) :
    FnOk P w K mg base CX0 (k + 1) f fd ps (spP K enc dR m) := by
  refine F.ok S (fun vs H Q E h => ?_) (fun cdv A outer s H vs Q E hr h => ?_)
  · obtain ⟨a, r, F', _, _, hv, _⟩ := h
    rw [Paired.length hv]
    exact hl a
  · obtain ⟨a, r, F', hm, ok, hv, q⟩ := h
    obtain ⟨t, p, hb⟩ := body cdv A outer s H E hr a
    refine ⟨t, p, hb r hm H F' _ H [] [] _ ⟨F', ok, start_pr hv, .nil⟩ ?_⟩
    rintro v H' ⟨F2, ok2, _, sv⟩
    cases sv with
    | cons r2 t2 => exact q v F2 H' ok2 r2
def spLaw (K : PySem.W.Frag) : Sp := fun vs H Q _ => ∃ (a : Addr) (ns : List Int), vs = [.ref a] ∧ SqL K H a (ns.map V.int) ∧ ns.length ≤ 63 ∧ (∀ z ∈ ns, Builtin.Int.intBits z ≤ 1048576) ∧ Only H ∧ ∀ H', Q (.bl true) H'
theorem law_imp {P : Program} {w : World} {K : PySem.W.Frag} {mg : Str → Option Value} {base : Heap} {f : Addr} {fd : FuncData} {k : Nat} {m : List Int → Option Bool} (hm : ∀ ns : List Int, ns.length ≤ 63 → (∀ z ∈ ns, Builtin.Int.intBits z ≤ 1048576) → m ns = some true) (h : FnOk P w K mg base CX0 k f fd ["script"] (spP K (encR enc0) dB (fun a : List Int × Unit => m a.1))) : FnOk P w K mg base CX0 k f fd ["script"] (spLaw K) :=
  h.imp fun vs H Q E q => by
    obtain ⟨a, ns, rfl, hs, hl, hb, ho, q⟩ := q
    refine ⟨(ns, ()), true, H, hm ns hl hb, ⟨Same.refl _, Same.refl _, Same.refl _, fun a o e => .inl e, fun a o e => ?_, fun p m => (by cases m), List.nodup_nil⟩, .cons ⟨a, rfl, hs⟩ .nil, fun v F' H' _ r => ?_⟩
    · rcases ho a with z | ⟨o', xs, z⟩
      · rw [z] at e; cases e
      · rw [z] at e; cases e; exact True.intro
    · cases (show Rp F' v (.bool true) from r)
      exact q H'
theorem walk_law {l : PySem.W.OpenLaw} {k : Nat} {q : Program} {loose : List Str} {XP : (Str → Option Value) → Heap → Prop} {YP : World → Heap → Prop} {d : DefRec} {K : Params → PySem.W.Frag} (hn : l.most = some 63) (hdf : d.params.defaults = []) (hr : Room k callerA)
    (hY : ∀ (w : World) (h : Heap), YP w h → (K w.params).In h)
    (F : ∀ (w : World) (mg : Str → Option Value) (fa : Addr) (h : Heap), (K w.params).In h → h.Ns mainGlobals mg → mg d.name = some (.ref fa) →
      ∃ fd : FuncData, (∀ (s : Shared) (u : Value), BindsTo s fd ⟨[u], []⟩ [("script", u)]) ∧ ∀ base : Heap, (K w.params).In base → base.Ns mainGlobals mg → FnOk l.prog w (K w.params) mg base CX0 k fa fd ["script"] (spLaw (K w.params))) :
    PySem.W.WalkO q loose XP YP l.row.toRowW d [] (fun f vs => PySem.call f vs) :=
  L2.walk_ofB (n := 63) (k := k) (x := "script") (CX := fun _ => CX0) (sp := fun w => spLaw (K w.params)) hn (by decide) hdf hr hY F (fun _ _ a ns hl hb hO hS => ⟨a, ns, rfl, hS, hl, hb, hO, fun _ => rfl⟩) fun _ _ _ _ _ z => z
end Mir
namespace Mir
open PySem L2
/-! ### plain lemmas on mirrors -/
section
variable {α β γ S W : Type}
/-- a value there is, and it is as P says -/
def Ho (o : Option α) (P : α → Prop) : Prop := ∃ x, o = some x ∧ P x
theorem Ho.bind {o : Option α} {P : α → Prop} {f : α → Option β} {Q : β → Prop} (h : Ho o P) (k : ∀ x, P x → Ho (f x) Q) : Ho (o.bind f) Q := by
  obtain ⟨x, rfl, p⟩ := h
  exact k x p
theorem Ho.map {o : Option α} {P : α → Prop} {f : α → β} {Q : β → Prop} (h : Ho o P) (k : ∀ x, P x → Q (f x)) : Ho (o.map f) Q := by
  obtain ⟨x, rfl, p⟩ := h
  exact ⟨f x, rfl, k x p⟩
theorem Ho.mono {o : Option α} {P Q : α → Prop} (h : Ho o P) (k : ∀ x, P x → Q x) : Ho o Q := by
  obtain ⟨x, e, p⟩ := h
  exact ⟨x, e, k x p⟩
theorem ho_some {x : α} {P : α → Prop} (h : P x) : Ho (some x) P := ⟨x, rfl, h⟩
theorem ho_eq {o : Option α} {x : α} (h : o = some x) : Ho o (fun y => y = x) := ⟨x, h, rfl⟩
theorem ho_of {o : Option α} {x : α} {P : α → Prop} (h : o = some x) (p : P x) : Ho o P := ⟨x, h, p⟩
theorem Ho.eq {o : Option α} {x : α} (h : Ho o (fun y => y = x)) : o = some x := by
  obtain ⟨y, e, rfl⟩ := h
  exact e
theorem ho_ite {c : Bool} {a b : Option α} {P : α → Prop} (h : c = true → Ho a P) (h' : c = false → Ho b P) : Ho (if c then a else b) P := by
  cases c with
  | true => exact h rfl
  | false => exact h' rfl
theorem ho_foldI {f : S → α → Option S} {Inv : List α → S → Prop} : ∀ {xs pre : List α} {s : S}, Inv pre s → (∀ p x s, (∃ q, pre ++ xs = p ++ x :: q) → Inv p s → Ho (f s x) (Inv (p ++ [x]))) → Ho (foldO f xs s) (Inv (pre ++ xs))
  | [], pre, s, h0, _ => by rw [List.append_nil]; exact ho_some h0
  | x :: xs, pre, s, h0, h => by
    refine (h pre x s ⟨xs, rfl⟩ h0).bind fun s' h1 => ?_
    have := ho_foldI (xs := xs) (pre := pre ++ [x]) h1 fun p y t hp => h p y t (by rw [List.append_assoc] at hp; exact hp)
    rw [List.append_assoc] at this
    exact this
theorem ho_fold {f : S → α → Option S} {Inv : S → Prop} {xs : List α} {s : S} (h0 : Inv s) (h : ∀ s x, x ∈ xs → Inv s → Ho (f s x) Inv) : Ho (foldO f xs s) Inv :=
  ho_foldI (Inv := fun _ s => Inv s) (pre := []) h0 fun p x s ⟨q, e⟩ i => h s x (by rw [List.nil_append] at e; rw [e]; simp) i
theorem fold_eq {f : S → α → Option S} {g : S → α → S} : ∀ {xs : List α} {s : S}, (∀ s x, x ∈ xs → f s x = some (g s x)) → foldO f xs s = some (xs.foldl g s)
  | [], s, _ => rfl
  | x :: xs, s, h => by
    show (f s x).bind _ = _
    rw [h s x List.mem_cons_self, Option.bind_some, List.foldl_cons]
    exact fold_eq fun s y hy => h s y (List.mem_cons_of_mem _ hy)
theorem ho_for {R : Type} {f : S → α → Option (Fl S R)} {Inv : S → Prop} : ∀ {xs : List α} {s : S}, Inv s → (∀ s x, x ∈ xs → Inv s → Ho (f s x) (fun r => ∃ s', r = .nx s' ∧ Inv s')) → Ho (forO f xs s) (fun r => ∃ s', r = .go s' ∧ Inv s')
  | [], s, h0, _ => ho_some ⟨s, rfl, h0⟩
  | x :: xs, s, h0, h => by
    refine (h s x List.mem_cons_self h0).bind fun r hr => ?_
    obtain ⟨s', rfl, h1⟩ := hr
    exact ho_for h1 fun s y hy => h s y (List.mem_cons_of_mem _ hy)
/-- a loop that finds: the first x at which f exits -/
theorem for_find {R : Type} {f : S → α → Option (Fl S R)} {s : S} {r : R} {x : α} : ∀ {pre post : List α}, (∀ y ∈ pre, f s y = some (.nx s)) → f s x = some (.ex r) → forO f (pre ++ x :: post) s = some (.ex r)
  | [], post, _, h => by
    show (f s x).bind _ = _
    rw [h]
    rfl
  | y :: pre, post, hp, h => by
    show (f s y).bind _ = _
    rw [hp y List.mem_cons_self]
    exact for_find (fun z hz => hp z (List.mem_cons_of_mem _ hz)) h
theorem for_none {R : Type} {f : S → α → Option (Fl S R)} {s : S} : ∀ {xs : List α}, (∀ y ∈ xs, f s y = some (.nx s)) → forO f xs s = some (.go s)
  | [], _ => rfl
  | y :: xs, h => by
    show (f s y).bind _ = _
    rw [h y List.mem_cons_self]
    exact for_none fun z hz => h z (List.mem_cons_of_mem _ hz)
theorem ho_loop {c : S → Option Bool} {f : S → Option S} {Inv : S → Prop} {Q : S → Prop} (μ : S → Nat) (h : ∀ s, Inv s → Ho (c s) (fun b => if b then Ho (f s) (fun s' => Inv s' ∧ μ s' < μ s) else Q s)) : ∀ {n : Nat} {s : S}, Inv s → μ s < n → Ho (loopO c f n s) Q
  | 0, s, _, hm => absurd hm (Nat.not_lt_zero _)
  | n + 1, s, hi, hm => by
    obtain ⟨b, hb, hq⟩ := h s hi
    unfold loopO
    rw [hb, Option.bind_some]
    cases b with
    | false => exact ho_some hq
    | true =>
      rw [if_pos rfl]
      refine Ho.bind hq fun s' hs => ho_loop μ h hs.1 (by have := hs.2; omega)
theorem ho_while {R : Type} {c : S → Option Bool} {f : S → Option (Fl S R)} {Inv : S → Prop} {Q : Fx S R → Prop} (μ : S → Nat) (h : ∀ s, Inv s → Ho (c s) (fun b => if b then Ho (f s) (fun r => match r with | .nx s' => Inv s' ∧ μ s' < μ s | .ct s' => Inv s' ∧ μ s' < μ s | .bk s' => Q (.go s') | .ex r => Q (.ex r)) else Q (.go s))) : ∀ {n : Nat} {s : S}, Inv s → μ s < n → Ho (whileO c f n s) Q
  | 0, s, _, hm => absurd hm (Nat.not_lt_zero _)
  | n + 1, s, hi, hm => by
    obtain ⟨b, hb, hq⟩ := h s hi
    unfold whileO
    rw [hb, Option.bind_some]
    cases b with
    | false => exact ho_some hq
    | true =>
      simp only [if_true] at hq ⊢
      refine Ho.bind hq fun r hr => ?_
      cases r with
      | nx s' => exact ho_while μ h hr.1 (by have := hr.2; omega)
      | ct s' => exact ho_while μ h hr.1 (by have := hr.2; omega)
      | bk s' => exact ho_some hr
      | ex r => exact ho_some hr
theorem mapO_eq {k : α → Option β} {f : α → β} : ∀ {xs : List α}, (∀ x ∈ xs, k x = some (f x)) → mapO k xs = some (xs.map f)
  | [], _ => rfl
  | x :: xs, h => by
    show (k x).bind _ = _
    rw [h x List.mem_cons_self, Option.bind_some, mapO_eq fun y hy => h y (List.mem_cons_of_mem _ hy)]
    rfl
theorem filtO_eq {c : α → Option Bool} {k : α → Option β} {p : α → Bool} {f : α → β} : ∀ {xs : List α}, (∀ x ∈ xs, c x = some (p x)) → (∀ x ∈ xs, p x = true → k x = some (f x)) → filtO c k xs = some ((xs.filter p).map f)
  | [], _, _ => rfl
  | x :: xs, h, h' => by
    have ih := filtO_eq (xs := xs) (fun y hy => h y (List.mem_cons_of_mem _ hy)) fun y hy => h' y (List.mem_cons_of_mem _ hy)
    show (c x).bind _ = _
    rw [h x List.mem_cons_self, Option.bind_some]
    cases hp : p x with
    | true =>
      rw [if_pos rfl, h' x List.mem_cons_self hp, Option.bind_some, ih, List.filter_cons, hp]
      rfl
    | false =>
      rw [if_neg (by simp), ih, List.filter_cons, hp]
      rfl
theorem filtO_id {c : α → Option Bool} {p : α → Bool} {xs : List α} (h : ∀ x ∈ xs, c x = some (p x)) : filtO c (fun x => some x) xs = some (xs.filter p) := by
  rw [filtO_eq (f := fun x => x) h fun _ _ _ => rfl, List.map_id']
/-- comprehensions that turn the world: what comes is made of what was walked -/
theorem ho_filtW {c : α → W → Option (Bool × W)} {k : α → W → Option (β × W)} {P : β → Prop} {Iw : W → Prop} : ∀ {xs : List α} {w : W}, Iw w → (∀ x ∈ xs, ∀ w, Iw w → Ho (c x w) (fun r => Iw r.2)) → (∀ x ∈ xs, ∀ w, Iw w → Ho (k x w) (fun r => P r.1 ∧ Iw r.2)) → Ho (filtW c k xs w) (fun r => (∀ y ∈ r.1, P y) ∧ Iw r.2)
  | [], w, hw, _, _ => ho_some ⟨fun _ h => (by cases h), hw⟩
  | x :: xs, w, hw, hc, hk => by
    refine (hc x List.mem_cons_self w hw).bind fun b hb => ?_
    have ih := fun {w} (hw : Iw w) => ho_filtW (xs := xs) (w := w) (P := P) hw (fun y hy => hc y (List.mem_cons_of_mem _ hy)) fun y hy => hk y (List.mem_cons_of_mem _ hy)
    refine ho_ite (fun _ => ?_) (fun _ => ih hb)
    refine (hk x List.mem_cons_self b.2 hb).bind fun y hy => (ih hy.2).map fun r hr => ⟨fun z hz => ?_, hr.2⟩
    rcases List.mem_cons.mp hz with rfl | hz
    · exact hy.1
    · exact hr.1 z hz
/-- .. the walked items that passed, as they stand -/
theorem ho_filtWs {c : α → W → Option (Bool × W)} {f : α → β} {Iw : W → Prop} : ∀ {xs : List α} {w : W}, Iw w → (∀ x ∈ xs, ∀ w, Iw w → Ho (c x w) (fun r => Iw r.2)) → Ho (filtW c (fun x w => some (f x, w)) xs w) (fun r => (∃ ys, r.1 = ys.map f ∧ List.Sublist ys xs) ∧ Iw r.2)
  | [], w, hw, _ => ho_some ⟨⟨[], rfl, List.Sublist.slnil⟩, hw⟩
  | x :: xs, w, hw, hc => by
    refine (hc x List.mem_cons_self w hw).bind fun b hb => ?_
    have ih := fun {w} (hw : Iw w) => ho_filtWs (xs := xs) (w := w) (f := f) hw fun y hy => hc y (List.mem_cons_of_mem _ hy)
    refine ho_ite (fun _ => ?_) (fun _ => (ih hb).mono fun r hr => ?_)
    · show Ho ((filtW c (fun x w => some (f x, w)) xs b.2).map _) _
      refine (ih hb).map fun r hr => ?_
      obtain ⟨⟨ys, e, s⟩, h⟩ := hr
      exact ⟨⟨x :: ys, by rw [e]; rfl, s.cons₂ x⟩, h⟩
    · obtain ⟨⟨ys, e, s⟩, h⟩ := hr
      exact ⟨⟨ys, e, s.cons x⟩, h⟩
theorem ho_mapW {k : α → W → Option (β × W)} {P : β → Prop} {Iw : W → Prop} : ∀ {xs : List α} {w : W}, Iw w → (∀ x ∈ xs, ∀ w, Iw w → Ho (k x w) (fun r => P r.1 ∧ Iw r.2)) → Ho (mapW k xs w) (fun r => r.1.length = xs.length ∧ (∀ y ∈ r.1, P y) ∧ Iw r.2)
  | [], w, hw, _ => ho_some ⟨rfl, fun _ h => (by cases h), hw⟩
  | x :: xs, w, hw, hk => by
    refine (hk x List.mem_cons_self w hw).bind fun y hy => (ho_mapW (xs := xs) hy.2 fun z hz => hk z (List.mem_cons_of_mem _ hz)).map fun r hr => ⟨?_, fun z hz => ?_, hr.2.2⟩
    · rw [List.length_cons, List.length_cons, hr.1]
    · rcases List.mem_cons.mp hz with rfl | hz
      · exact hy.1
      · exact hr.2.1 z hz
end
/-! ### sizes and places -/
section
variable {α β : Type}
theorem line_eq : sizeLine = 16777216 := sizeLine_eq
theorem szO_eq {n : Nat} {x : α} (h : n ≤ 16777216) : szO n x = some x := by
  unfold szO
  rw [if_pos (by rw [line_eq]; exact h)]
theorem tupO_eq {xs : List α} (h : xs.length ≤ 16777216) : tupO xs = some xs := szO_eq h
theorem catO_eq {xs ys : List α} (h : xs.length + ys.length ≤ 16777216) : catO xs ys = some (xs ++ ys) := szO_eq h
theorem appO_eq {xs : List α} {a : α} (h : xs.length < 16777216) : appO xs a = some (xs ++ [a]) := by
  unfold appO
  rw [if_pos (by rw [line_eq]; exact h)]
theorem rngO_eq {a b : Int} (h : -4611686018427387904 ≤ a ∧ a < 4611686018427387904) (h' : -4611686018427387904 ≤ b ∧ b < 4611686018427387904) : rngO a b = some (rng a b) := by
  unfold rngO bigI
  simp [h, h']
theorem rngL_eq {a b : Int} (h : -4611686018427387904 ≤ a ∧ a < 4611686018427387904) (h' : -4611686018427387904 ≤ b ∧ b < 4611686018427387904) (hl : b - a ≤ 16777216) : rngL a b = some (rng a b) := by
  unfold rngL bigI
  have : (b - a).toNat ≤ 16777216 := by omega
  simp [h, h', this]
theorem mem_rng {a b x : Int} : x ∈ rng a b ↔ a ≤ x ∧ x < b := by
  unfold rng
  rw [List.mem_map]
  constructor
  · rintro ⟨i, hi, rfl⟩
    have := List.mem_range.mp hi
    omega
  · intro h
    exact ⟨(x - a).toNat, List.mem_range.mpr (by omega), by omega⟩
theorem rng_len (a b : Int) : (rng a b).length = (b - a).toNat := by unfold rng; rw [List.length_map, List.length_range]
theorem rng_lt (a b : Int) : (rng a b).Pairwise (· < ·) := by
  unfold rng
  rw [List.pairwise_map]
  exact (List.pairwise_lt_range).imp fun h => by omega
theorem rng_cons {a b : Int} (h : a < b) : rng a b = a :: rng (a + 1) b := by
  refine lt_unique (rng_lt a b) (List.pairwise_cons.mpr ⟨fun x hx => ?_, rng_lt _ _⟩) fun k => ?_
  · have := mem_rng.mp hx; omega
  · rw [List.mem_cons, mem_rng, mem_rng]; omega
theorem rng_nil {a b : Int} (h : b ≤ a) : rng a b = [] := by
  unfold rng
  have : (b - a).toNat = 0 := by omega
  rw [this]
  rfl
theorem atO_get {xs : List α} {i : Int} (h : 0 ≤ i) : atO xs i = xs[i.toNat]? := by
  unfold atO atI ixN
  rw [if_pos h]
  by_cases hl : i < xs.length
  · rw [if_pos hl]; rfl
  · rw [if_neg hl, List.getElem?_eq_none (by omega)]; rfl
theorem atO_nat {xs : List α} {i : Nat} : atO xs (i : Int) = xs[i]? := by
  rw [atO_get (by omega)]
  rfl
theorem rng_get {n : Int} {i : Nat} (h : (i : Int) < n) : (rng 0 n)[i]? = some (i : Int) := by
  unfold rng
  rw [List.getElem?_map, List.getElem?_range (by omega)]
  simp
/-- a table over range(n), read -/
theorem at_map {n x : Int} {f : Int → β} (h : 0 ≤ x) (h' : x < n) : atO ((rng 0 n).map f) x = some (f x) := by
  rw [atO_get h, List.getElem?_map, rng_get (by omega)]
  show some (f (x.toNat : Int)) = _
  have : ((x.toNat : Nat) : Int) = x := by omega
  rw [this]
theorem atO_some {xs : List α} {i : Int} {x : α} (h : atO xs i = some x) : x ∈ xs := by
  unfold atO atI at h
  obtain ⟨j, _, h⟩ := Option.bind_eq_some_iff.mp h
  exact List.mem_of_getElem? h
theorem at_ho {xs : List α} {i : Int} (h : 0 ≤ i) (h' : i < xs.length) : Ho (atO xs i) (fun x => x ∈ xs ∧ xs[i.toNat]? = some x) := by
  have hl : i.toNat < xs.length := by omega
  refine ⟨xs[i.toNat], ?_, List.getElem_mem hl, List.getElem?_eq_getElem hl⟩
  rw [atO_get h, List.getElem?_eq_getElem hl]
end
/-! ### draws -/
theorem fmod_pos {a b : Int} (h : 0 < b) : 0 ≤ a.fmod b ∧ a.fmod b < b := ⟨Int.fmod_nonneg_of_pos _ h, Int.fmod_lt_of_pos _ h⟩
theorem draw_ho {many : Int} {w : DS} (h : 0 < many) (h' : many < 1073741824) : Ho (drawM many w) (fun r => 0 ≤ r.1 ∧ r.1 < many) := by
  unfold drawM
  have e : ∀ a : Int, fmodO a many = some (a.fmod many) := fun a => by unfold fmodO; rw [if_pos (by omega)]
  have e2 : ∀ a : Int, fdivO a many = some (a.fdiv many) := fun a => by unfold fdivO; rw [if_pos (by omega)]
  cases w.1.dropWhile fun c => decide (c = 0) with
  | nil => exact ⟨_, by simp only [e]; rfl, fmod_pos h⟩
  | cons v r => exact ⟨_, by simp only [e, e2]; rfl, fmod_pos h⟩
theorem pick_ho {α : Type} {row : List α} {w : DS} (h : row ≠ []) (h' : row.length < 1073741824) : Ho (pickM row w) (fun r => r.1 ∈ row) := by
  unfold pickM
  have hl : 0 < row.length := List.length_pos_iff.mpr h
  refine (draw_ho (by omega) (by omega)).bind fun v hv => ?_
  exact (at_ho hv.1 hv.2).map fun x hx => hx.1
/-! ### sorted lists of ints -/
theorem leI_trans : ∀ a b c : Int, leI a b = true → leI b c = true → leI a c = true := fun a b c h h' => by
  unfold leI at *
  rw [decide_eq_true_eq] at *
  omega
theorem leI_total : ∀ a b : Int, (leI a b || leI b a) = true := fun a b => by
  unfold leI
  rw [Bool.or_eq_true, decide_eq_true_eq, decide_eq_true_eq]
  omega
theorem mem_ms {xs : List Int} {x : Int} : x ∈ xs.mergeSort leI ↔ x ∈ xs := (List.mergeSort_perm xs leI).mem_iff
theorem ms_len {α : Type} (le : α → α → Bool) (xs : List α) : (xs.mergeSort le).length = xs.length := List.length_mergeSort xs
theorem ms_le (xs : List Int) : (xs.mergeSort leI).Pairwise (· ≤ ·) := (List.pairwise_mergeSort (le := leI) (fun a b c => leI_trans a b c) (fun a b => leI_total a b) xs).imp fun h => by unfold leI at h; exact decide_eq_true_iff.mp h
theorem ms_nodup {xs : List Int} : (xs.mergeSort leI).Nodup ↔ xs.Nodup := (List.mergeSort_perm xs leI).nodup_iff
theorem lt_of_le_nodup' {xs : List Int} (h : xs.Pairwise (· ≤ ·)) (d : xs.Nodup) : xs.Pairwise (· < ·) := by
  induction xs with
  | nil => exact List.Pairwise.nil
  | cons x xs ih =>
    obtain ⟨h1, h2⟩ := List.pairwise_cons.mp h
    obtain ⟨d1, d2⟩ := List.nodup_cons.mp d
    refine List.pairwise_cons.mpr ⟨fun y hy => ?_, ih h2 d2⟩
    have := h1 y hy
    have : x ≠ y := fun e => d1 (e ▸ hy)
    omega
theorem ms_lt {xs : List Int} (d : xs.Nodup) : (xs.mergeSort leI).Pairwise (· < ·) := lt_of_le_nodup' (ms_le xs) (ms_nodup.mpr d)
theorem lt_nodup {xs : List Int} (h : xs.Pairwise (· < ·)) : xs.Nodup := h.imp fun h => by omega
theorem ms_of_lt {xs : List Int} (h : xs.Pairwise (· < ·)) : xs.mergeSort leI = xs := lt_unique (ms_lt (lt_nodup h)) h fun _ => mem_ms
end Mir
namespace Mir
open PySem L2

/-! ### sorted of a dict whose keys are tuples -/
section
open PySem.Spec PyProof.Rows
variable {X : Cx}
def rSortKeysT (K : PySem.W.Frag) : List V → Hp → VK → Prop := fun vs H Q => ∃ (a : Addr) (kvs : List (List Key × V)), vs = [.ref a] ∧ H a = some (.dT kvs) ∧
  ∀ as : List Addr, Paired (fun (b : Addr) (kv : List Key × V) => H b = some (.tup (kv.1.map kV))) as kvs →
  ∃ bs : List (V × PyData), bs.map (·.1) = as.map V.ref ∧ (∀ b ∈ bs, Dp K H b.1 b.2) ∧ PySem.W.AllAlike (bs.map (·.2)) ∧ PySem.W.Sortable (bs.map (·.2)) ∧ (∀ b ∈ bs, b.2.depth ≤ 64) ∧
  ∀ p, H p = none → Q (.ref p) (upd H p (.lst ((bs.mergeSort (PySem.W.dataLe false (·.2))).map (·.1))))
theorem cr_sortKeysT (hcalm : X.calm = true) (hu : X.A.units + 70 < cLine) : CallR X (.builtin "sorted") (rSortKeysT X.K) := by
  intro pins s σ H xs us Q I r h
  obtain ⟨a, kvs, rfl, hk0, h⟩ := h
  obtain ⟨u, eu, rx⟩ := vals1 r
  subst eu
  obtain rfl : u = Value.ref a := rx
  have hok := I.hok a _ hk0
  unfold L2.ObjOk at hok
  obtain ⟨z, lo, xs, rk, o, es, ep, ho, hxd, hod, hes, hnd⟩ := hok
  have hpa : Paired (fun (b : Addr) (kv : List Key × V) => H b = some (.tup (kv.1.map kV))) (xs.map fun x => x.2.1) kvs := by
    clear hk0 h hes hnd z
    induction rk with
    | nil => exact .nil
    | cons r t ih => exact .cons r.2.1 ih
  obtain ⟨bs, hbs, hd, hal, hk, hdep, q⟩ := h _ hpa
  have hl : kvs.length = xs.length := Paired.length rk
  have hbl : bs.length = kvs.length := by
    have := congrArg List.length hbs
    rw [List.length_map, List.length_map, List.length_map] at this
    omega
  have hel : es.size = kvs.length := by
    have := congrArg List.length hes
    rw [List.length_map] at this
    rw [hl, ← this]
    simp
  refine Calls.call_function_entry PyProof.Rows.kind_sorted PyProof.Rows.plain_sorted PyProof.Rows.entry_sorted (PyProof.Rows.args_sorted1 _) ?_
  unfold Builtin.«sorted»
  refine wpAny_bind (m := checkCount "sorted" 1 1 _) (wpAny_pure ?_)
  refine wpAny_bind (PySem.W.kdu_collect (A := X.A.in1) (kdl_raw lo hxd hod) (I.ok.hd hcalm) ho (by rw [hel]; exact z) fun h' tk acc hkeep hacc => ?_)
  have rv : Vals (bs.map (·.1)) acc.toList := by
    have el : acc.toList.length = acc.size := by simp
    rw [hbs]
    refine vals_of_at (by rw [List.length_map, List.length_map, el, hacc.1, hel, hl]) fun j x w h1 h2 => ?_
    obtain ⟨en, he1, he2⟩ := hacc.2 j w (by rw [← Array.getElem?_toList]; exact h2)
    rw [← Array.getElem?_toList, hes, List.getElem?_map] at he1
    rw [List.map_map, List.getElem?_map] at h1
    cases hx : xs[j]? with
    | none => rw [hx] at h1; cases h1
    | some y =>
      rw [hx] at h1 he1
      cases h1
      cases he1
      rw [he2]
      rfl
  have hal2 : acc.toList.length = bs.length := by rw [← rv.length, List.length_map]
  have I1 : Inv X pins σ H { s with heap := h', toks := tk } := I.kept hkeep
  have er : PySem.W.EachIs (fun u (b : V × PyData) => ∃ as, Reads h' u b.2 as) acc.toList bs := each_reads I1 hd rv
  refine wpAny_bind (wpAny_newList ?_ (by rw [hal2, hbl]; exact z))
  have hoL : (h'.push (seqObj "list" acc.toList.toArray 0)).get? h'.objs.size = some (seqObj "list" acc.toList.toArray 0) := Heap.get?_push_size _ rfl
  show wpAny _ _ _ _ _ { s with heap := h'.push (seqObj "list" acc.toList.toArray 0), toks := tk }
  have keep : ∀ b o, h'.get? b = some o → (PySem.W.sortingHeap (h'.push (seqObj "list" acc.toList.toArray 0)) h'.objs.size acc.toList).get? b = some o := fun b o e => by
    have hb : b < h'.objs.size := Heap.lt_size e
    exact PySem.W.sortingHeap_old (Nat.ne_of_lt hb) (Heap.get?_push_of_some _ e)
  have er' : PySem.W.EachIs (fun u (b : V × PyData) => ∃ as, Reads (PySem.W.sortingHeap (h'.push (seqObj "list" acc.toList.toArray 0)) h'.objs.size acc.toList) u b.2 as) acc.toList bs := er.mono fun _ _ ⟨as, r⟩ => ⟨as, PyProof.Rows.Reads.keeps keep r⟩
  refine wpAny_bind (wpAny_holding (wpAny_call_entry PyProof.Rows.slot_list_sort ⟨_, hoL, rfl⟩ PyProof.Rows.entry_list_sort
    (PySem.W.list_sort_vals (κ := PySem.W.dataKind (PySem.W.sortingHeap (h'.push (seqObj "list" acc.toList.toArray 0)) h'.objs.size acc.toList) (bs.map (·.2))) (s := { s with heap := h'.push (seqObj "list" acc.toList.toArray 0), toks := tk }) hoL
      (PySem.W.SortsAt.data (s := { s with heap := PySem.W.sortingHeap (h'.push (seqObj "list" acc.toList.toArray 0)) h'.objs.size acc.toList, toks := tk }) (PySem.W.each_map (R := fun v d => ∃ as, Reads (PySem.W.sortingHeap (h'.push (seqObj "list" acc.toList.toArray 0)) h'.objs.size acc.toList) v d as) (fun b : V × PyData => b.2) er') hal hk ?_) (by rw [hal2, hbl]; exact z) ⟨.none, rfl, ?_⟩) (PyProof.Rows.args_list_sort _)))
  · intro x hx
    obtain ⟨b, hb, rfl⟩ := List.mem_map.mp hx
    have := hdep b hb
    show X.A.units + 1 + 1 + b.2.depth < cLine
    omega
  generalize eo : PySem.W.sortVals (PySem.W.dataKind (PySem.W.sortingHeap (h'.push (seqObj "list" acc.toList.toArray 0)) h'.objs.size acc.toList) (bs.map (·.2))) false acc.toList acc.toList = out
  have e2 : PySem.W.EachIs (fun u (b : V × PyData) => RelV b.1 u) out (bs.mergeSort (PySem.W.dataLe false (·.2))) := by
    rw [← eo]
    exact PySem.W.sortVals_data false (each_of rv) er' hal
  have hv := of_each e2
  obtain ⟨e', he'⟩ := PyProof.Rows.sortedHeap_at (vs := acc.toList) (out := out.toArray) hoL
  have hlen : ((bs.mergeSort (PySem.W.dataLe false (·.2))).map (·.1)).length ≤ sizeLine := by
    rw [List.length_map, List.length_mergeSort, hbl]; exact z
  refine wpAny_pure ⟨_, rfl, .ref h'.objs.size, upd H h'.objs.size (.lst ((bs.mergeSort (PySem.W.dataLe false (·.2))).map (·.1))), I1.laid (t' := tk) (fun b u e => ?_) (Nat.le_refl _)
    (show ObjOk X.prog X.w _ _ _ (.lst ((bs.mergeSort (PySem.W.dataLe false (·.2))).map (·.1))) from ⟨hlen, out, e', hv, he'⟩), rfl, q _ (I1.hok.fresh (Nat.le_refl _))⟩
  have hb : b < h'.objs.size := Heap.lt_size e
  rw [PyProof.Rows.sortedHeap_old (Nat.ne_of_lt hb) (by rw [size_push']; exact Nat.lt_succ_of_lt hb)]
  exact Heap.get?_push_of_some _ e
end
section
variable {K : PySem.W.Frag} {F F0 B H : Hp} {L : Ow} {ρ : Env} {σ : L2.St} {vs : List V} {ds : List Sl}
noncomputable def withTups (F H : Hp) : Hp := fun a => match F a with
  | some o => some o
  | none => match H a with
    | some (.tup us) => some (.tup us)
    | _ => none
theorem wt_same : Same F (withTups F H) := fun a o e => by unfold withTups; rw [e]
theorem Ok.tups (k : Ok K B F0 F H L) : Ok K B F0 (withTups F H) H L where
  up := k.up.trans wt_same
  le := fun a o e => by
    unfold withTups at e
    split at e
    · rename_i h; rw [k.le _ _ h]; exact e
    · split at e
      · rename_i h; rw [h]; exact e
      · cases e
  amb := k.amb
  new := fun a o e => by
    unfold withTups at e
    split at e
    · rename_i h; cases e; exact k.new _ _ h
    · split at e
      · cases e; exact .inr (.inr trivial)
      · cases e
  sz := k.sz
  own := fun p hp => by
    obtain ⟨a, b, r⟩ := k.own p hp
    refine ⟨?_, b, r.mono wt_same rfl⟩
    obtain ⟨o, e, n⟩ := r.there
    unfold withTups
    rw [a, e]
    cases o <;> first | rfl | exact (n trivial).elim
  nd := k.nd
theorem St.tups (h : St K B F0 ρ L σ H vs ds) : ∃ F, Ok K B F0 F H L ∧ Paired (SlR K F) σ ρ ∧ Paired (SvR K F) vs ds ∧ ∀ a us, H a = some (.tup us) → F a = some (.tup us) := by
  obtain ⟨F, ok, sl, sv⟩ := h
  refine ⟨_, ok.tups, sls_mono wt_same sl, svs_mono wt_same sv, fun a us e => ?_⟩
  unfold withTups
  cases hF : F a with
  | none => simp [e]
  | some o =>
    have := ok.le _ _ hF
    rw [e] at this
    cases this
    rfl
theorem rps_kV : ∀ (ks : List Key), Rps F (ks.map kV) (ks.map kD)
  | [] => .nil
  | .inl i :: ks => .cons (.int i) (rps_kV ks)
  | .inr x :: ks => .cons (.str x) (rps_kV ks)
end
section
variable {X : Cx} {ν κ : Type} {o e : Expr} {ρ : Env} {L : Ow} {p pos : Pos} {n : Nat} {dv : ν → PyData} {dk : κ → PyData}
theorem dt_refs {K : PySem.W.Frag} {F H : Hp} {f : κ → List Key} (ky : Ky kTD dk f) (hF : ∀ a us, H a = some (.tup us) → F a = some (.tup us)) : ∀ {kvs : List (κ × ν)} {ws : List (List Key × V)} {as : List Addr}, DTR K F ws (kvs.map (encK dk dv)) →
    Paired (fun (b : Addr) (kv : List Key × V) => H b = some (.tup (kv.1.map kV))) as ws → Paired (fun v d => Rp F v d) (as.map V.ref) ((kvs.map (·.1)).map dk)
  | [], _, _, h, h2 => by cases h; cases h2; exact .nil
  | kv :: kvs, _, _, h, h2 => by
    cases h with
    | @cons x _ _ _ r t =>
      cases h2 with
      | @cons a _ _ _ r2 t2 =>
        refine .cons ?_ (dt_refs ky hF t t2)
        have e : dk kv.1 = kTD x.1 := r.1
        show Rp F (V.ref a) (dk kv.1)
        rw [e]
        exact .tup (hF _ _ r2) (rps_kV _)
/-- the keys of a dict with tuples for keys, sorted -/
theorem n_sortedDT {le : κ → κ → Bool} {f : κ → List Key} {a : Addr} {kvs : List (κ × ν)} (j : Nat) (ky : Ky kTD dk f) (hd : Srt dk le) (hc : X.calm = true) (hr : Room n X.A) (hL : L[j]? = some (a, odK true dk dv kvs)) (ho : ES X o ρ L (some (.ptr a))) (hm : X.mg "sorted" = none) (hs : starEach [o] X.env = (false, eval o X.env) :: starEach [] X.env := by rfl)
    (hh : X.mg "sorted" = none → ∀ {ta}, PE X o ta → X.A.units + 70 < cLine → PE X (.Call (.Name "sorted" p) [o] [] pos) (tCB (rSortKeysT X.K) (tCons ta tNil)) := by intro hm _ h hu; exact pe_callB (cr_sortKeysT rfl hu) (by rfl) hm (by decide +kernel) (pa_cons h pa_nil)) :
    EN X dk (.Call (.Name "sorted" p) [o] [] pos) ρ L (some ((kvs.map (·.1)).mergeSort le)) := by
  obtain ⟨t, p, h⟩ := ho
  refine ⟨_, hh hm p (by have := hr.un; omega), fun z hz B F0 σ H vs ds Q s k => ?_⟩
  cases hz
  refine h _ rfl B F0 σ H vs ds _ s fun v H1 s1 => ?_
  have e := s1.isPtr
  subst e
  obtain ⟨F, ok, sl, sv, hF⟩ := s1.pop.tups
  obtain ⟨ws, h1, h2⟩ := ok.at_ hL
  refine ⟨a, ws, rfl, h1, fun as has => ?_⟩
  have rp := dt_refs ky hF h2 has
  generalize hus : as.map V.ref = us at rp
  generalize hxs : kvs.map (·.1) = xs at rp
  have h3 : us.length = (xs.map dk).length := Paired.length rp
  have e1 : (us.zip (xs.map dk)).map (·.1) = us := zip_fst h3
  have e2 : (us.zip (xs.map dk)).map (·.2) = xs.map dk := zip_snd h3
  refine ⟨us.zip (xs.map dk), by rw [e1], fun b hb => Rp.dp ok.le _ _ (zip_mem rp b hb), ?_, ?_, fun b hb => ?_, fun p hp => ?_⟩
  · rw [e2]
    intro x hx y hy
    obtain ⟨x', _, rfl⟩ := List.mem_map.mp hx
    obtain ⟨y', _, rfl⟩ := List.mem_map.mp hy
    exact hd.ali x' y'
  · rw [e2]
    rcases hd.srt with h | h
    · exact .inl fun x hx => by obtain ⟨x', _, rfl⟩ := List.mem_map.mp hx; exact h x'
    · exact .inr fun x hx => by obtain ⟨x', _, rfl⟩ := List.mem_map.mp hx; exact h x'
  · have : b.2 ∈ xs.map dk := by rw [← e2]; exact List.mem_map_of_mem hb
    obtain ⟨x', _, e⟩ := List.mem_map.mp this
    rw [← e]
    exact hd.dep x'
  · have e3 : ((us.zip (xs.map dk)).mergeSort (PySem.W.dataLe false (·.2))).map (·.2) = (xs.mergeSort le).map dk := by
      refine Eq.trans (PySem.W.sort_maps (r := PySem.W.dataLe false (fun b : V × PyData => b.2)) (s := PySem.W.dataLe false (fun x : PyData => x)) (fun b : V × PyData => b.2) (fun _ _ _ _ => rfl)) ?_
      rw [e2, ← hd.le]
      exact (PySem.W.sort_maps (r := PySem.W.dataLe false dk) (s := PySem.W.dataLe false (fun x : PyData => x)) dk (fun _ _ _ _ => rfl)).symm
    have pz := of_zip (R := fun (v : V) (x : PyData) => Rp F v x) (bs := (us.zip (xs.map dk)).mergeSort (PySem.W.dataLe false (·.2))) fun q hq => zip_mem rp q ((List.mergeSort_perm _ _).mem_iff.mp hq)
    rw [e3] at pz
    have hlen : (((us.zip (xs.map dk)).mergeSort (PySem.W.dataLe false (·.2))).map (·.1)).length = us.length := by
      rw [List.length_map, List.length_mergeSort, List.length_zip, ← h3, Nat.min_self]
    have hz := ok.sz _ _ h1
    have hl : ws.length = kvs.length := by rw [Paired.length h2, List.length_map]
    refine k p _ (St.newLst (us := ((us.zip (xs.map dk)).mergeSort (PySem.W.dataLe false (·.2))).map (·.1)) ?_ ?_ hp (by rw [hlen, h3, List.length_map, ← hxs, List.length_map, ← hl]; exact hz))
    · rw [hxs]; exact ⟨F, ok, sl, pr_app (dats_of (Rps.of pz)) sv⟩
    · rw [hlen, h3, hxs]; simp
end

/-! ### xs[:0:-1] of a list -/
theorem pick_rev0 (xs : Array Value) : PySem.slicePick xs none (some 0) (some (-1)) = (xs.toList.drop 1).reverse.toArray := by
  unfold PySem.slicePick
  congr 1
  obtain ⟨l⟩ := xs
  cases l with
  | nil => rfl
  | cons x t =>
    have e : PySem.sliceRange (PySem.sliceBounds none (some 0) (some (-1)) (Array.mk (x :: t)).size).fst (PySem.sliceBounds none (some 0) (some (-1)) (Array.mk (x :: t)).size).snd.fst (PySem.sliceBounds none (some 0) (some (-1)) (Array.mk (x :: t)).size).snd.snd = ((List.range t.length).reverse).map fun k => k + 1 := by
      have hs : (Array.mk (x :: t)).size = t.length + 1 := rfl
      rw [hs]
      have eb : PySem.sliceBounds none (some 0) (some (-1)) (t.length + 1) = ((t.length : Int), 0, -1) := by
        unfold PySem.sliceBounds
        simp only [Option.getD_some]
        have h1 : ¬ ((-1 : Int) > 0) := by decide
        rw [if_neg h1]
        refine Prod.ext ?_ (Prod.ext ?_ rfl)
        · show ((t.length + 1 : Nat) : Int) - 1 = t.length
          omega
        · show (if (-1 : Int) > 0 then max 0 (min (if (0 : Int) < 0 then 0 + ((t.length + 1 : Nat) : Int) else 0) ((t.length + 1 : Nat) : Int)) else max (-1) (min (if (0 : Int) < 0 then 0 + ((t.length + 1 : Nat) : Int) else 0) (((t.length + 1 : Nat) : Int) - 1))) = 0
          rw [if_neg h1, if_neg (by decide)]
          omega
      rw [eb]
      show PySem.sliceRange (t.length : Int) 0 (-1) = _
      unfold PySem.sliceRange
      have h1 : ¬ ((-1 : Int) > 0) := by decide
      simp only [if_neg h1]
      have hc : (if (t.length : Int) > 0 then ((t.length : Int) - 0 - -1 - 1) / - -1 else 0).toNat = t.length := by
        rw [Int.neg_neg, Int.ediv_one]
        split <;> omega
      rw [hc, ← PySem.W.krv_range, List.map_map]
      refine List.map_congr_left fun k hk => ?_
      have := List.mem_range.mp hk
      show ((t.length : Int) + -1 * (k : Int)).toNat = t.length - 1 - k + 1
      omega
    rw [e, List.filterMap_map]
    have e3 : (List.filterMap ((fun i => (Array.mk (x :: t))[i]?) ∘ fun k => k + 1) (List.range t.length).reverse) = t.reverse := by
      have e4 : ((fun i => (Array.mk (x :: t))[i]?) ∘ fun k => k + 1) = fun k => (Array.mk t)[k]? := by
        funext k
        show (Array.mk (x :: t))[k + 1]? = (Array.mk t)[k]?
        simp
      rw [e4, List.filterMap_reverse]
      have := PySem.W.krv_all (Array.mk t)
      rw [show (Array.mk t).size = t.length from rfl] at this
      rw [this]
    rw [e3]
    rfl
open PySem.Spec PyProof.Rows in
def tRevL0 (K : PySem.W.Frag) (te : TE) : TE := fun σ H Q => te σ H fun x H1 => ∃ a xs, x = .ref a ∧ SqL K H1 a xs ∧ ∀ p, H1 p = none → Q (.ref p) (upd H1 p (.lst (xs.drop 1).reverse))
open PySem.Spec PyProof.Rows in
theorem pe_revL0 {X : Cx} {e : Expr} {te : TE} {k k0 : Nat} {p1 p2 p3 p0 pos : Pos} (he : PE X e te) : PE X (.Subscript e (.Slice none (some (.Constant (.int 0) k0 p0)) (some (.UnaryOp .USub (.Constant (.int 1) k p1) p2)) p3) pos) (tRevL0 X.K te) := by
  refine ⟨fun pins s σ H Q I h => ?_⟩
  refine Subscript_ (thn (he.run pins s σ H _ I h) fun v s1 ⟨x, H1, I1, r1, q1⟩ => ?_)
  obtain ⟨a, xs, ex, hx, q⟩ := q1
  subst ex
  cases r1
  have hst : PO X (some (.UnaryOp .USub (.Constant (.int 1) k p1) p2)) (tPart (tUn (rU fun i => .int (-i)) (tC (.int 1)))) := po_some (pe_un un_neg pe_int)
  have hs0 : PO X (some (.Constant (.int 0) k0 p0)) (tPart (tC (.int 0))) := po_some pe_int
  refine wpAny_Slice (thn (po_none.run pins s1 σ H1 (fun o H2 => o = none ∧ H2 = H1) I1 ⟨rfl, rfl⟩) fun vl s2 ⟨l, H2, I2, pl, el, e2⟩ => ?_)
  subst el e2
  refine thn (hs0.run pins s2 σ H2 (fun o H3 => o = some 0 ∧ H3 = H2) I2 ⟨0, rfl, rfl, rfl⟩) fun vu s3 ⟨u, H3, I3, pu, eu, e3⟩ => ?_
  subst eu e3
  refine thn (hst.run pins s3 σ H3 (fun o H4 => o = some (-1) ∧ H4 = H3) I3 ⟨1, rfl, -1, rfl, rfl, rfl⟩) fun vs s4 ⟨o, H4, I4, ps, eo, e4⟩ => ?_
  subst eo e4
  have I5 : Inv X pins σ H4 { s4 with heap := s4.heap.push { cls := .type "slice", data := .fields #[vl, vu, vs] } } := I4.kept (t' := s4.toks) fun b ob q => Heap.get?_push_of_some _ q
  obtain ⟨its, r, pt, hz⟩ := I5.list hx
  have ht := pt.isList
  have hlen := r.length
  show wpAny (model X.prog X.w) X.A (subscriptTail e (.Slice none (some (.Constant (.int 0) k0 p0)) (some (.UnaryOp .USub (.Constant (.int 1) k p1) p2)) p3) (.ref a) (.ref s4.heap.objs.size)) (EP X pins σ Q) X.xe { s4 with heap := s4.heap.push { cls := .type "slice", data := .fields #[vl, vu, vs] } }
  refine tail_any (ops := [.ref a, .ref s4.heap.objs.size]) ht.typeIs PySem.slot_list_getitem.lookup ?_ (by with_unfolding_all rfl)
  refine PySem.wpAny_getItem_list_slice ht (Heap.IsSliceOf.new _ vl vu vs) pl pu ps (by decide) ?_ (by rw [List.size_toArray]; omega)
  rw [pick_rev0]
  refine ⟨.ref _, _, I5.laid (t' := s4.toks) (o := .lst (xs.drop 1).reverse) (fun b ob q => Heap.get?_push_of_some _ q) (Nat.le_refl _) ?_, rfl, q _ (I5.hok.fresh (Nat.le_refl _))⟩
  refine ⟨by rw [List.length_reverse, List.length_drop]; omega, (its.drop 1).reverse, 0, (r.drop 1).reverse, ?_⟩
  exact Heap.get?_push_size _ rfl
theorem n_revs0 {X : Cx} {α : Type} {e : Expr} {ρ : Env} {L : Ow} {pos : Pos} {d : α → PyData} {o : Option (List α)} {k k0 : Nat} {p0 p1 p2 p3 : Pos} (h : QL X d e ρ L o) : EN X d (.Subscript e (.Slice none (some (.Constant (.int 0) k0 p0)) (some (.UnaryOp .USub (.Constant (.int 1) k p1) p2)) p3) pos) ρ L (o.map fun xs => (xs.drop 1).reverse) := by
  obtain ⟨t, p, h⟩ := h
  refine ⟨_, pe_revL0 p, fun z hz B F0 σ H vs ds Q s k => ?_⟩
  obtain ⟨xs, hx, rfl⟩ := Option.map_eq_some_iff.mp hz
  refine h xs hx B F0 σ H vs ds _ s fun v sl H1 q s1 => ?_
  obtain ⟨a, us, rfl, h1, h2, h4, h3⟩ := s1.lstOf q
  refine ⟨a, us, rfl, SqL.of h1, fun p hp => k _ _ ?_⟩
  refine St.newLst (us := (us.drop 1).reverse) ?_ (by rw [List.length_reverse, List.length_map, List.length_map, List.length_reverse, List.length_drop, List.length_drop, h2, List.length_map]) hp (by rw [List.length_reverse, List.length_drop]; omega)
  refine h3.stack fun F r => ?_
  obtain ⟨r1, r2⟩ := pr_split (by rw [List.length_map]; exact h2) r
  rw [List.map_reverse, List.map_reverse, List.map_drop, List.map_drop]
  exact pr_app (pr_rev (pr_drop 1 r1)) (by cases r2 with | cons _ t => exact t)
end Mir
namespace Mir
open PySem L2
section
variable {X : Cx} {α β γ S : Type} {a b c e o o' i i' : Expr} {ρ ρ' : Env} {L : Ow} {pos px py pz pt pt2 tp1 tp2 : Pos} {kt k2 : Nat} {d : α → PyData} {d' : β → PyData} {f : γ → PyData} {oa : Option α} {ob : Option β} {x y z : Str} {rest : List Stmt} {δ : Type} {oc : δ → Oc} {p p' : Addr}
/-- x, y = two new owned objects -/
theorem b_parOO {oda : α → OD} {odb : β → OD} {k : α → β → Option δ} (i j : Nat) (hc : X.calm = true) (hN : X.N.Nodup) (ha : EO X oda a ρ L oa) (hb : ∀ p u, EO X odb b ρ (L ++ [(p, oda u)]) ob)
    (hr : ∀ p u q v, BX X rest ((ρ.set i (some (.ptr p))).set j (some (.ptr q))) ((L ++ [(p, oda u)]) ++ [(q, odb v)]) (k u v) oc) (hij : i ≠ j := by decide) (hi : X.N[i]? = some x := by rfl) (hj : X.N[j]? = some y := by rfl)
    (hx : X.env.scope.names.lookup x = some .local := by rfl) (hy : X.env.scope.names.lookup y = some .local := by rfl) (h1 : starEach [a, b] X.env = (false, eval a X.env) :: starEach [b] X.env := by rfl) (h2 : starEach [b] X.env = (false, eval b X.env) :: starEach [] X.env := by rfl)
    (hw : swappedStores [.Tuple [.Name x px, .Name y py] kt pt] (.Tuple [a, b] k2 pt2) X.env = pure (some [x, y]) := by rfl)
    (hs : swapsWithSole [.Tuple [.Name x px, .Name y py] kt pt] (.Tuple [a, b] k2 pt2) pos.line X.env = pure false := by rfl) :
    BX X (.Assign [.Tuple [.Name x px, .Name y py] kt pt] (.Tuple [a, b] k2 pt2) pos :: rest) ρ L (oa.bind fun u => ob.bind fun v => k u v) oc := by
  obtain ⟨ta, pa, ha⟩ := ha
  obtain ⟨tb, pb, hb⟩ : ∃ tb, PE X b tb ∧ ∀ p u v, ob = some v → ∀ B F0 σ H vs ds Q, St X.K B F0 ρ (L ++ [(p, oda u)]) σ H vs ds → (∀ q H', St X.K B F0 ρ ((L ++ [(p, oda u)]) ++ [(q, odb v)]) σ H' (.ref q :: vs) (.ptr q :: ds) → Q (.ref q) H') → tb σ H Q := by
    refine ⟨fun σ H Q => ∃ p u v B F0 vs ds, ob = some v ∧ St X.K B F0 ρ (L ++ [(p, oda u)]) σ H vs ds ∧ ∀ q H', St X.K B F0 ρ ((L ++ [(p, oda u)]) ++ [(q, odb v)]) σ H' (.ref q :: vs) (.ptr q :: ds) → Q (.ref q) H', ⟨fun pins s σ H Q I h => ?_⟩, fun p u v e B F0 σ H vs ds Q s k => ⟨p, u, v, B, F0, vs, ds, e, s, k⟩⟩
    obtain ⟨p, u, v, B, F0, vs, ds, e, st, k⟩ := h
    obtain ⟨tb, pb, hb⟩ := hb p u
    exact pb.run pins s σ H Q I (hb v e B F0 σ H vs ds Q st k)
  obtain ⟨t', p', hr⟩ := BX.all (S := Addr × α × Addr × β) (ρf := fun q => (ρ.set i (some (.ptr q.1))).set j (some (.ptr q.2.2.1))) (Lf := fun q => (L ++ [(q.1, oda q.2.1)]) ++ [(q.2.2.1, odb q.2.2.2)]) (k := fun q => k q.2.1 q.2.2.2) (fun q => hr q.1 q.2.1 q.2.2.1 q.2.2.2)
  refine ⟨_, pss_cons (ps_par hc hN hi hj hij hx hy (pa_cons pa (pa_cons pb pa_nil h2) h1) hw hs) p', fun q hq B F0 σ H vs ds D s g => ?_⟩
  obtain ⟨u, hu, hq⟩ := Option.bind_eq_some_iff.mp hq
  obtain ⟨v, hv, hq⟩ := Option.bind_eq_some_iff.mp hq
  refine ha u hu B F0 σ H vs ds _ s fun p1 H1 s1 => hb p1 u v hv B F0 σ H1 _ _ _ s1 fun q1 H2 s2 => ⟨.ref p1, .ref q1, rfl, hr (p1, u, q1, v) q hq B F0 _ _ vs ds D ?_ g⟩
  exact St.store j (St.store i s2.swap)
/-- x, y = a, a new owned object -/
theorem b_parDO {odb : β → OD} {k : α → β → Option δ} (i j : Nat) (hc : X.calm = true) (hN : X.N.Nodup) (ha : EX X d a ρ L oa) (hb : EO X odb b ρ L ob) (hr : ∀ u q v, BX X rest ((ρ.set i (some (.dat (d u)))).set j (some (.ptr q))) (L ++ [(q, odb v)]) (k u v) oc) (hij : i ≠ j := by decide) (hi : X.N[i]? = some x := by rfl) (hj : X.N[j]? = some y := by rfl)
    (hx : X.env.scope.names.lookup x = some .local := by rfl) (hy : X.env.scope.names.lookup y = some .local := by rfl) (h1 : starEach [a, b] X.env = (false, eval a X.env) :: starEach [b] X.env := by rfl) (h2 : starEach [b] X.env = (false, eval b X.env) :: starEach [] X.env := by rfl)
    (hw : swappedStores [.Tuple [.Name x px, .Name y py] kt pt] (.Tuple [a, b] k2 pt2) X.env = pure (some [x, y]) := by rfl)
    (hs : swapsWithSole [.Tuple [.Name x px, .Name y py] kt pt] (.Tuple [a, b] k2 pt2) pos.line X.env = pure false := by rfl) :
    BX X (.Assign [.Tuple [.Name x px, .Name y py] kt pt] (.Tuple [a, b] k2 pt2) pos :: rest) ρ L (oa.bind fun u => ob.bind fun v => k u v) oc := by
  obtain ⟨ta, pa, ha⟩ := ha
  obtain ⟨tb, pb, hb⟩ := hb
  obtain ⟨t', p', hr⟩ := BX.all (S := α × Addr × β) (ρf := fun q => (ρ.set i (some (.dat (d q.1)))).set j (some (.ptr q.2.1))) (Lf := fun q => L ++ [(q.2.1, odb q.2.2)]) (k := fun q => k q.1 q.2.2) (fun q => hr q.1 q.2.1 q.2.2)
  refine ⟨_, pss_cons (ps_par hc hN hi hj hij hx hy (pa_cons pa (pa_cons pb pa_nil h2) h1) hw hs) p', fun q hq B F0 σ H vs ds D s g => ?_⟩
  obtain ⟨u, hu, hq⟩ := Option.bind_eq_some_iff.mp hq
  obtain ⟨v, hv, hq⟩ := Option.bind_eq_some_iff.mp hq
  refine ha u hu B F0 σ H vs ds _ s fun x1 H1 s1 => hb v hv B F0 σ H1 _ _ _ s1 fun q1 H2 s2 => ⟨x1, .ref q1, rfl, hr (u, q1, v) q hq B F0 _ _ vs ds D ?_ g⟩
  exact St.store j (St.store i s2.swap)
/-- o[i], o'[i'] = a, b of owned lists -/
theorem s_setI2 {xs : List α} {ys : List α → List β} {oi : Option Int} {oi' : List α → Option Int} (j j' : Nat) (hc : X.calm = true) (hL : L[j]? = some (p, odL d xs)) (hL2 : ∀ z, (L.set j (p, odL d z))[j']? = some (p', odL d' (ys z))) (ho : ES X o ρ L (some (.ptr p))) (hi : EX X dI i ρ L oi)
    (ho2 : ∀ z, ES X o' ρ (L.set j (p, odL d z)) (some (.ptr p'))) (hi2 : ∀ z, EX X dI i' ρ (L.set j (p, odL d z)) (oi' z)) (ha : EX X d a ρ L oa) (hb : EX X d' b ρ L ob)
    (h1 : starEach [a, b] X.env = (false, eval a X.env) :: starEach [b] X.env := by rfl) (h2 : starEach [b] X.env = (false, eval b X.env) :: starEach [] X.env := by rfl)
    (hs : swapsWithSole [.Tuple [.Subscript o i tp1, .Subscript o' i' tp2] kt pt] (.Tuple [a, b] k2 pt2) pos.line X.env = pure false := by rfl)
    (hw : swappedStores [.Tuple [.Subscript o i tp1, .Subscript o' i' tp2] kt pt] (.Tuple [a, b] k2 pt2) X.env = pure none := by rfl)
    (hh : ∀ {to ti to' ti'}, X.calm = true → PE X o to → PE X i ti → PE X o' to' → PE X i' ti' → PG X (.Tuple [.Subscript o i tp1, .Subscript o' i' tp2] kt pt) (gTup X.K 2 (gCons (gSub to ti rSetL) (gCons (gSub to' ti' rSetL) gNil))) := by
      intro _ _ _ _ hc h1 h2 h3 h4; exact pg_tup hc (pgs_cons (pg_sub h1 h2 set_list) (pgs_cons (pg_sub h3 h4 set_list) pgs_nil)))
    (h3 : (assignEach [.Tuple [.Subscript o i tp1, .Subscript o' i' tp2] kt pt] X.env).map (·.2) = [assign (.Tuple [.Subscript o i tp1, .Subscript o' i' tp2] kt pt) X.env] := by rfl) :
    SX X (.Assign [.Tuple [.Subscript o i tp1, .Subscript o' i' tp2] kt pt] (.Tuple [a, b] k2 pt2) pos) ρ L
      (oa.bind fun u => ob.bind fun v => oi.bind fun n => (setO xs n u).bind fun z => (oi' z).bind fun m => (setO (ys z) m v).map fun w => (z, w))
      (ocn fun q => (ρ, (L.set j (p, odL d q.1)).set j' (p', odL d' q.2))) := by
  obtain ⟨tp, pp, hp⟩ := x_pair (k := k2) (pos := pt2) ha hb h1 h2
  obtain ⟨to, po, ho⟩ := ho
  obtain ⟨ti, pi, hi⟩ := hi
  obtain ⟨to', po', ho2⟩ : ∃ t, PE X o' t ∧ ∀ z B F0 σ H vs ds Q, St X.K B F0 ρ (L.set j (p, odL d z)) σ H vs ds → (∀ v H', St X.K B F0 ρ (L.set j (p, odL d z)) σ H' (v :: vs) (.ptr p' :: ds) → Q v H') → t σ H Q := by
    refine ⟨fun σ H Q => ∃ z B F0 vs ds, St X.K B F0 ρ (L.set j (p, odL d z)) σ H vs ds ∧ ∀ v H', St X.K B F0 ρ (L.set j (p, odL d z)) σ H' (v :: vs) (.ptr p' :: ds) → Q v H', ⟨fun pins s σ H Q I h => ?_⟩, fun z B F0 σ H vs ds Q s k => ⟨z, B, F0, vs, ds, s, k⟩⟩
    obtain ⟨z, B, F0, vs, ds, st, k⟩ := h
    obtain ⟨t, q, r⟩ := ho2 z
    exact q.run pins s σ H Q I (r _ rfl B F0 σ H vs ds Q st k)
  obtain ⟨ti', pi', hi2⟩ := EX.all (S := List α) (ρf := fun _ => ρ) (Lf := fun z => L.set j (p, odL d z)) (k := oi') hi2
  refine ⟨_, ps_asg pp (hh hc po pi po' pi') hs hw h3, fun q hq B F0 σ H vs ds D s g => ?_⟩
  obtain ⟨u, hu, hq⟩ := Option.bind_eq_some_iff.mp hq
  obtain ⟨v, hv, hq⟩ := Option.bind_eq_some_iff.mp hq
  obtain ⟨n, hn, hq⟩ := Option.bind_eq_some_iff.mp hq
  obtain ⟨z, hz, hq⟩ := Option.bind_eq_some_iff.mp hq
  obtain ⟨m, hm, hq⟩ := Option.bind_eq_some_iff.mp hq
  obtain ⟨w, hw', rfl⟩ := Option.map_eq_some_iff.mp hq
  obtain ⟨n2, hn2, rfl⟩ := Option.map_eq_some_iff.mp hz
  obtain ⟨m2, hm2, rfl⟩ := Option.map_eq_some_iff.mp hw'
  refine hp (u, v) (by rw [hu, hv]; rfl) B F0 σ H vs ds _ s fun r H1 s1 => ?_
  obtain ⟨ad, us, rfl, e1, e2, _, s2⟩ := St.tup1 (xs := [d u, d' v]) s1
  obtain ⟨v1, v2, rfl⟩ : ∃ v1 v2, us = [v1, v2] := by
    match us, e2 with
    | [v1, v2], _ => exact ⟨v1, v2, rfl⟩
  refine ⟨ad, [v1, v2], rfl, SqT.of e1, rfl, v1, [v2], rfl, ?_⟩
  have s3 : St X.K B F0 ρ L σ H1 (v1 :: v2 :: vs) (.dat (d u) :: .dat (d' v) :: ds) := s2.stack fun F r => by
    cases r with | cons r1 t => cases t with | cons r2 t => cases t with | cons _ t => exact .cons r1 (.cons r2 t)
  refine ho _ rfl B F0 σ H1 _ _ _ s3 fun x2 H2 s4 => hi n hn B F0 σ H2 _ _ _ s4 fun y2 H3 s5 => ?_
  have ew := s5.isInt
  have ev := s5.pop.isPtr
  obtain ⟨F, ok, sl, sv⟩ := s5.pop.pop
  obtain ⟨us, g2, g3⟩ := ok.at_ hL
  have hlen : us.length = xs.length := by rw [Paired.length g3, List.length_map, List.length_map]
  have hz := ok.sz _ _ g2
  cases sv with
  | cons r t =>
    refine ⟨p, us, n, n2, ev, ew, g2, by rw [hlen]; exact hn2, v2, [], rfl, ?_⟩
    have s6 : St X.K B F0 ρ (L.set j (p, odL d (xs.set n2 u))) σ (upd H3 p (.lst (us.set n2 v1))) (v2 :: vs) (.dat (d' v) :: ds) := by
      refine ⟨F, ok.put hL (d' := odL d (xs.set n2 u)) (o := .lst (us.set n2 v1)) (by show (us.set n2 v1).length ≤ sizeLine; rw [List.length_set]; exact hz) ⟨_, upd_same, ?_⟩, sl, t⟩
      rw [List.map_set, List.map_set]
      exact pr_set r n2 g3
    refine ho2 _ B F0 σ _ _ _ _ s6 fun x2 H2 s4 => hi2 _ m hm B F0 σ H2 _ _ _ s4 fun y2 H3 s5 => ?_
    have ew := s5.isInt
    have ev := s5.pop.isPtr
    obtain ⟨F, ok, sl, sv⟩ := s5.pop.pop
    obtain ⟨us, g2, g3⟩ := ok.at_ (hL2 _)
    have hlen : us.length = (ys (xs.set n2 u)).length := by rw [Paired.length g3, List.length_map, List.length_map]
    have hz := ok.sz _ _ g2
    cases sv with
    | cons r t =>
      refine ⟨p', us, m, m2, ev, ew, g2, by rw [hlen]; exact hm2, rfl, g _ _ ⟨F, ok.put (hL2 _) (d' := odL d' ((ys (xs.set n2 u)).set m2 v)) (o := .lst (us.set m2 v2)) (by show (us.set m2 v2).length ≤ sizeLine; rw [List.length_set]; exact hz) ⟨_, upd_same, ?_⟩, sl, t⟩⟩
      rw [List.map_set, List.map_set]
      exact pr_set r m2 g3
end

/-! ### {k: v}, k a tuple -/
section
open PySem.Spec PyProof.Rows
def tDispT (K : PySem.W.Frag) (tk tv : TE) : TE := fun σ H Q => ∀ p, H p = none → tk σ (upd H p (.dT [])) fun x H1 => tv σ H1 fun y H2 => H2 p = some (.dT []) ∧ ∃ b ks, x = .ref b ∧ H2 b = some (.tup (ks.map kV)) ∧ Q (.ref p) (upd H2 p (.dT [(ks, y)]))
theorem pe_dispT {X : Cx} {k v : Expr} {pos : Pos} {tk tv : TE} {j : Nat} (hr : Room j X.A) (pk : PE X k tk) (pv : PE X v tv) : PE X (.Dict [some k] [v] pos) (tDispT X.K tk tv) := by
  refine ⟨fun pins s σ H Q I h => ?_⟩
  have ee : eval (.Dict [some k] [v] pos) X.env = (do standAt pos; dictDisplay ((pairTrees [some k] [v] X.env pos).map fun p => (some p.fst, p.snd))) := by
    rw [← zip_pairTrees [some k] [v] X.env pos rfl rfl]
    unfold PySem.eval
    rfl
  rw [ee]
  refine wpAny_bind (wpAny_standAt ?_)
  rw [dictDisplay_pairs _ (by rw [pairTrees.eq_1]; simp) (by rw [pairTrees_length _ _ _ _ rfl rfl]; simp)]
  refine wpAny_bind (wpAny_subDict_any (by rw [pairTrees_length _ _ _ _ rfl rfl]; simp) ?_)
  have hnew : H s.heap.objs.size = none := I.hok.fresh (Nat.le_refl _)
  have I0 : Inv X pins σ (upd H s.heap.objs.size (.dT [])) { s with heap := s.heap.push { cls := .type "dict", data := .dict #[] } } :=
    I.laid (t' := s.toks) (o := .dT []) (fun b u e => Heap.get?_push_of_some _ e) (Nat.le_refl _) (dt_empty s.heap I.big)
  refine thn ((pps_cons pk pv pps_nil).run pins _ σ _ (fun ps H2 => match ps with
    | [(x, y)] => H2 s.heap.objs.size = some (.dT []) ∧ ∃ b ks, x = .ref b ∧ H2 b = some (.tup (ks.map kV)) ∧ Q (.ref s.heap.objs.size) (upd H2 s.heap.objs.size (.dT [(ks, y)]))
    | _ => False) I0 (h _ hnew)) fun vs s2 ⟨ps, H2, I2, rv, q2⟩ => ?_
  cases rv with
  | nil => exact q2.elim
  | @cons p1 p2 ps1 vs1 r r' =>
    cases r' with
    | cons _ _ => exact q2.elim
    | nil =>
      obtain ⟨x, y⟩ := p1
      obtain ⟨ku, vu⟩ := p2
      obtain ⟨hd, b, ks, ex, hb, q⟩ := q2
      obtain ⟨r1, r2⟩ := r
      dsimp only at r1 r2
      subst ex
      obtain rfl : ku = Value.ref b := r1
      obtain ⟨z, lo, xs, kt, dd⟩ := dt_of I2.hok hd
      have exs : xs = [] := by cases kt; rfl
      subst exs
      have huni : X.A.units + 70 < cLine := by have := hr.un; omega
      show wpAny _ _ (forIn [(Value.ref b, vu)] PUnit.unit fun x _ => do dictSet s.heap.objs.size x.1 x.2; pure (ForInStep.yield PUnit.unit)) _ _ _
      rw [List.forIn_cons]
      refine wpAny_bind (wpAny_bind (wpAny_dictSet_heap (knd := tupleKind (mixKind X.prog X.w)) (k := ks) (xs := []) (show X.A.units < cLine by omega) (key_of I2.hok hb) dd (fun h' d1 d2 => wpAny_pure ?_) (by show 0 ≤ _; exact Nat.zero_le _)))
      refine wpAny_pure (wpAny_pure ?_)
      obtain ⟨o, es, ep, g1, g2, g3, g4, g5, g6⟩ := d1
      refine ⟨.ref s.heap.objs.size, _, d_write (ob := .dT [(ks, y)]) I2 (by rw [hd]; trivial) d2 ⟨o, g1⟩ ?_, rfl, q⟩
      unfold L2.ObjOk
      refine ⟨by show 1 ≤ _; exact sz_of (by decide : 1 ≤ 1000), lo, [(ks, b, vu)], .cons ⟨rfl, ?_, r2⟩ .nil, o, es, ep, g1, g2, g3, g4, g6⟩
      have hne : b ≠ s.heap.objs.size := fun e => by rw [e, hd] at hb; cases hb
      show upd H2 s.heap.objs.size (.dT [(ks, y)]) b = _
      rw [upd_ne hne]
      exact hb
theorem e_disp1T {X : Cx} {κ ν : Type} [DecidableEq κ] {k v : Expr} {pos : Pos} {ρ : Env} {L : Ow} {dk : κ → PyData} {dv : ν → PyData} {f : κ → List Key} {ok : Option κ} {ov : Option ν} {j : Nat} (ky : Ky kTD dk f) (hr : Room j X.A) (hk : ∀ M, EX X dk k ρ (L ++ M) ok) (hv : ∀ M, EX X dv v ρ (L ++ M) ov) : EO X (odK true dk dv) (.Dict [some k] [v] pos) ρ L (ok.bind fun i => ov.bind fun x => some [(i, x)]) := by
  obtain ⟨tk, pk, hk⟩ := EX.all (S := Ow) (ρf := fun _ => ρ) (Lf := fun M => L ++ M) (k := fun _ => ok) hk
  obtain ⟨tv, pv, hv⟩ := EX.all (S := Ow) (ρf := fun _ => ρ) (Lf := fun M => L ++ M) (k := fun _ => ov) hv
  refine ⟨_, pe_dispT hr pk pv, fun z hz B F0 σ H vs ds Q s q => ?_⟩
  obtain ⟨i, hi, hz⟩ := Option.bind_eq_some_iff.mp hz
  obtain ⟨x, hx, hz⟩ := Option.bind_eq_some_iff.mp hz
  cases hz
  intro p hp
  have s1 : St X.K B F0 ρ (L ++ [(p, odK true dk dv [])]) σ (upd H p (.dT [])) vs ds := by
    obtain ⟨F, ok, sl, sv⟩ := s
    exact ⟨F, ok.alloc hp (Nat.zero_le _) ⟨[], upd_same, .nil⟩, sl, sv⟩
  refine hk _ i hi B F0 σ _ vs ds _ s1 fun u H1 s2 => hv _ x hx B F0 σ H1 _ _ _ s2 fun w H2 s3 => ?_
  obtain ⟨F, ok, sl, sv⟩ := s3
  cases sv with
  | cons r t =>
    cases t with
    | cons r2 t =>
      have m7 : (L ++ [(p, odK true dk dv [])])[L.length]? = some (p, odK true dk dv []) := by simp
      obtain ⟨ws', h1, h2⟩ := ok.at_ m7
      have e0 : ws' = [] := by
        have h3 := Paired.length h2
        exact List.length_eq_zero_iff.mp h3
      subst e0
      have r2' : Rp F u (kTD (f i)) := by rw [← ky.eq]; exact r2
      obtain ⟨b, rfl, hb⟩ := rp_kTD r2'
      refine ⟨h1, b, f i, rfl, ok.le _ _ hb, q p _ ?_⟩
      have h3 := dr_put (c := kTD) (f := f) (K := X.K) (dv := dv) (fun _ _ => kTD_inj) ky i r h2
      have k2 := Ok.write (L2 := []) (d' := odK true dk dv [(i, x)]) (o := .dT [(f i, w)]) ok (sz_of (by decide : 1 ≤ 1000)) ⟨_, upd_same, h3⟩
      exact ⟨F, k2, sl, .cons rfl t⟩
end
end Mir
namespace Mir
open PySem L2
/-! ### neighbours -/
def nbr (ties : List (Int × Int)) (x : Int) : List Int := ((ties.filter fun t => decide (x ∈ [t.1, t.2])).map fun t => t.1 + t.2 - x).mergeSort leI
structure Web (n : Int) (ties : List (Int × Int)) : Prop where
  rg : ∀ t ∈ ties, 0 ≤ t.1 ∧ t.1 < t.2 ∧ t.2 < n
theorem mem_nbr {ties : List (Int × Int)} {x y : Int} : y ∈ nbr ties x ↔ (x, y) ∈ ties ∨ (y, x) ∈ ties := by
  unfold nbr
  rw [mem_ms, List.mem_map]
  constructor
  · rintro ⟨⟨a, b⟩, h, rfl⟩
    obtain ⟨h1, h2⟩ := List.mem_filter.mp h
    have h3 : x = a ∨ x = b := by simpa using h2
    rcases h3 with rfl | rfl
    · left
      have : x + b - x = b := by omega
      rw [this]
      exact h1
    · right
      have : a + x - x = a := by omega
      rw [this]
      exact h1
  · rintro (h | h)
    · exact ⟨(x, y), List.mem_filter.mpr ⟨h, by simp⟩, by show x + y - x = y; omega⟩
    · exact ⟨(y, x), List.mem_filter.mpr ⟨h, by simp⟩, by show y + x - x = y; omega⟩
theorem nbr_symm {ties : List (Int × Int)} {x y : Int} (h : y ∈ nbr ties x) : x ∈ nbr ties y := mem_nbr.mpr (mem_nbr.mp h).symm
theorem nbr_len (ties : List (Int × Int)) (x : Int) : (nbr ties x).length ≤ ties.length := by
  unfold nbr
  rw [ms_len, List.length_map]
  exact List.length_filter_le _ _
theorem Web.nb {n : Int} {ties : List (Int × Int)} (w : Web n ties) {x y : Int} (h : y ∈ nbr ties x) : 0 ≤ y ∧ y < n := by
  rcases mem_nbr.mp h with h | h
  · have := w.rg _ h; exact ⟨by omega, this.2.2⟩
  · have := w.rg _ h; exact ⟨this.1, by omega⟩
/-! ### dicts of places -/
section
variable {ν : Type}
theorem dget_some {κ : Type} [DecidableEq κ] {kvs : List (κ × ν)} {k : κ} : (dget kvs k).isSome = decide (k ∈ kvs.map (·.1)) := by
  unfold dget
  rw [Option.isSome_map, Bool.eq_iff_iff, decide_eq_true_eq, List.find?_isSome, List.mem_map]
  simp
theorem dget_is {κ : Type} [DecidableEq κ] {kvs : List (κ × ν)} {k : κ} (h : k ∈ kvs.map (·.1)) : (dget kvs k).isSome = true := by rw [dget_some]; exact decide_eq_true h
theorem dget_not {κ : Type} [DecidableEq κ] {kvs : List (κ × ν)} {k : κ} (h : k ∉ kvs.map (·.1)) : (dget kvs k).isSome = false := by rw [dget_some]; exact decide_eq_false h
theorem dput_new {κ : Type} [DecidableEq κ] {kvs : List (κ × ν)} {k : κ} {v : ν} (h : k ∉ kvs.map (·.1)) : dput kvs k v = kvs ++ [(k, v)] := by
  unfold dput
  rw [if_neg]
  simp only [List.any_eq_true, decide_eq_true_eq, not_exists, not_and]
  intro q hq e
  exact h (List.mem_map.mpr ⟨q, hq, e⟩)
theorem dc_keys {S : List Int} : ∀ {acc : List (Int × Bool)}, S.Nodup → (∀ x ∈ S, x ∉ acc.map (·.1)) → dcO (fun x => some x) (fun _ => some true) S acc = some (acc ++ S.map fun x => (x, true)) := by
  induction S with
  | nil => intro acc _ _; simp [dcO]
  | cons x S ih =>
    intro acc hd hn
    obtain ⟨d1, d2⟩ := List.nodup_cons.mp hd
    unfold dcO
    rw [Option.bind_some, Option.bind_some, dput_new (hn x List.mem_cons_self), ih d2 fun y hy h => ?_, List.append_assoc]
    · rfl
    · rw [List.map_append, List.mem_append] at h
      rcases h with h | h
      · exact hn y (List.mem_cons_of_mem _ hy) h
      · have e : y = x := by simpa using h
        exact d1 (e ▸ hy)
end
theorem nodup_le {α : Type} [DecidableEq α] : ∀ {D E : List α}, D.Nodup → (∀ x ∈ D, x ∈ E) → D.length ≤ E.length
  | [], _, _, _ => Nat.zero_le _
  | x :: D, E, hd, h => by
    obtain ⟨d1, d2⟩ := List.nodup_cons.mp hd
    have hx := h x List.mem_cons_self
    have ih := nodup_le (E := E.erase x) d2 fun y hy => (List.mem_erase_of_ne (fun (e : y = x) => d1 (e ▸ hy))).mpr (h y (List.mem_cons_of_mem _ hy))
    rw [List.length_erase_of_mem hx] at ih
    have := List.length_pos_of_mem hx
    rw [List.length_cons]
    omega
theorem nodup_rng_len {n : Int} {D : List Int} (hd : D.Nodup) (h : ∀ x ∈ D, 0 ≤ x ∧ x < n) : D.length ≤ n.toNat := by
  have := nodup_le hd fun x hx => mem_rng.mpr (h x hx)
  rw [rng_len] at this
  simpa using this
theorem nbr_nodup {n : Int} {ties : List (Int × Int)} (w : Web n ties) (hd : ties.Nodup) (x : Int) : (nbr ties x).Nodup := by
  unfold nbr
  rw [ms_nodup]
  show List.Pairwise (· ≠ ·) _
  rw [List.pairwise_map]
  refine ((hd.filter _ : List.Pairwise (· ≠ ·) _)).imp_of_mem fun {s t} hs ht hne e => hne ?_
  obtain ⟨s1, s2⟩ := List.mem_filter.mp hs
  obtain ⟨t1, t2⟩ := List.mem_filter.mp ht
  have ws := w.rg s s1
  have wt := w.rg t t1
  have s3 : x = s.1 ∨ x = s.2 := by simpa using s2
  have t3 : x = t.1 ∨ x = t.2 := by simpa using t2
  refine Prod.ext ?_ ?_ <;> rcases s3 with h | h <;> rcases t3 with k | k <;> omega
end Mir
namespace Tr
open PySem L2 Mir
/-- a tree by each place's place before it -/
structure Tree (n : Int) (ties : List (Int × Int)) : Prop where
  par : ∃ p : Int → Int, (∀ t, t ∈ ties ↔ t.1 = p t.2 ∧ 1 ≤ t.2 ∧ t.2 < n) ∧ ∀ i, 1 ≤ i → i < n → 0 ≤ p i ∧ p i < i
  nd : ties.Nodup
def Adj (ties : List (Int × Int)) (v w : Int) : Prop := (v, w) ∈ ties ∨ (w, v) ∈ ties
theorem Adj.symm {ties : List (Int × Int)} {v w : Int} (h : Adj ties v w) : Adj ties w v := Or.symm h
structure Rooted (ties : List (Int × Int)) (r : Int) (f : Int → Int) : Prop where
  root : f r = -1
  adj : ∀ v w, Adj ties v w → f v = w ∨ f w = v
theorem Tree.web {n : Int} {ties : List (Int × Int)} (h : Tree n ties) : Web n ties := by
  obtain ⟨p, hp, hr⟩ := h.par
  refine ⟨fun t ht => ?_⟩
  obtain ⟨e, h1, h2⟩ := (hp t).mp ht
  have := hr _ h1 h2
  omega
theorem adj_rg {n : Int} {ties : List (Int × Int)} (w : Web n ties) {x y : Int} (h : Adj ties x y) : 0 ≤ x ∧ x < n ∧ 0 ≤ y ∧ y < n ∧ x ≠ y := by
  rcases h with h | h
  · have := w.rg _ h; dsimp only at this; omega
  · have := w.rg _ h; dsimp only at this; omega
theorem rooted_move {n : Int} {ties : List (Int × Int)} (w : Web n ties) {q r : Int} {f : Int → Int} (h : Rooted ties q f) (e : Adj ties q r) : ∃ g, Rooted ties r g := by
  have hqr := adj_rg w e
  refine ⟨fun v => if v = r then -1 else if v = q then r else f v, by simp, fun v u a => ?_⟩
  have ha := adj_rg w a
  have hfr : f r = q := by
    rcases h.adj q r e with h1 | h1
    · have := h.root; omega
    · exact h1
  by_cases v1 : v = r
  · subst v1
    by_cases u1 : u = q
    · subst u1
      right
      rw [if_neg (by omega), if_pos rfl]
    · right
      rw [if_neg (by omega), if_neg u1]
      rcases h.adj _ _ a with h1 | h1
      · omega
      · exact h1
  · by_cases v2 : v = q
    · subst v2
      by_cases u1 : u = r
      · subst u1
        left
        rw [if_neg v1, if_pos rfl]
      · right
        rw [if_neg u1, if_neg (by omega)]
        rcases h.adj _ _ a with h1 | h1
        · have := h.root; omega
        · exact h1
    · by_cases u1 : u = r
      · subst u1
        left
        rw [if_neg v1, if_neg v2]
        rcases h.adj _ _ a with h1 | h1
        · exact h1
        · omega
      · by_cases u2 : u = q
        · subst u2
          left
          rw [if_neg v1, if_neg v2]
          rcases h.adj _ _ a with h1 | h1
          · exact h1
          · have := h.root; omega
        · rw [if_neg v1, if_neg v2, if_neg u1, if_neg u2]
          exact h.adj _ _ a
theorem Tree.rooted {n : Int} {ties : List (Int × Int)} (h : Tree n ties) : ∀ (k : Nat), (k : Int) < n → ∃ f, Rooted ties (k : Int) f := by
  obtain ⟨p, hp, hr⟩ := h.par
  intro k
  induction k using Nat.strongRecOn with
  | _ k ih =>
    intro hk
    by_cases h0 : k = 0
    · subst h0
      refine ⟨fun i => if i = 0 then -1 else p i, rfl, fun v u a => ?_⟩
      rcases a with a | a
      · obtain ⟨e, h1, h2⟩ := (hp _).mp a
        dsimp only at e h1 h2 ⊢
        right
        rw [if_neg (by omega)]
        exact e.symm
      · obtain ⟨e, h1, h2⟩ := (hp _).mp a
        dsimp only at e h1 h2 ⊢
        left
        rw [if_neg (by omega)]
        exact e.symm
    · have hpk := hr k (by omega) hk
      obtain ⟨f, hf⟩ := ih (p k).toNat (by omega) (by omega)
      have e : (((p k).toNat : Nat) : Int) = p k := by omega
      rw [e] at hf
      exact rooted_move h.web hf (.inl ((hp (p k, (k : Int))).mpr ⟨rfl, by omega, hk⟩))
/-- all places hang on the root -/
theorem Tree.conn {n : Int} {ties : List (Int × Int)} (h : Tree n ties) {S : Int → Prop} {r : Int} (hr : 0 ≤ r ∧ r < n) (h0 : S r) (hs : ∀ v w, S v → Adj ties v w → S w) : ∀ v, 0 ≤ v → v < n → S v := by
  obtain ⟨p, hp, hq⟩ := h.par
  have edge : ∀ i, 1 ≤ i → i < n → Adj ties (p i) i := fun i h1 h2 => .inl ((hp (p i, i)).mpr ⟨rfl, h1, h2⟩)
  have down : ∀ (k : Nat), (k : Int) < n → S k → S 0 := by
    intro k
    induction k using Nat.strongRecOn with
    | _ k ih =>
      intro hk hs'
      by_cases hk0 : k = 0
      · subst hk0; exact hs'
      · have hpk := hq k (by omega) hk
        refine ih (p k).toNat (by omega) (by omega) ?_
        have e : (((p k).toNat : Nat) : Int) = p k := by omega
        rw [e]
        exact hs _ _ hs' (edge k (by omega) hk).symm
  have s0 : S 0 := down r.toNat (by omega) (by have e : ((r.toNat : Nat) : Int) = r := by omega
                                               rw [e]; exact h0)
  have up : ∀ (k : Nat), (k : Int) < n → S k := by
    intro k
    induction k using Nat.strongRecOn with
    | _ k ih =>
      intro hk
      by_cases hk0 : k = 0
      · subst hk0; exact s0
      · have hpk := hq k (by omega) hk
        have := ih (p k).toNat (by omega) (by omega)
        have e : (((p k).toNat : Nat) : Int) = p k := by omega
        rw [e] at this
        exact hs _ _ this (edge k (by omega) hk)
  intro v h1 h2
  have e : ((v.toNat : Nat) : Int) = v := by omega
  rw [← e]
  exact up _ (by omega)
end Tr
namespace Tr
open PySem L2 Mir
/-- the order in which places are met from r on; those before k are done -/
structure DI (n : Int) (ties : List (Int × Int)) (r : Int) (f : Int → Int) (ord : List (Int × Int)) (k : Nat) : Prop where
  nd : (ord.map (·.1)).Nodup
  ent : ∀ e ∈ ord, e.2 = f e.1 ∧ 0 ≤ e.1 ∧ e.1 < n
  adj : ∀ e ∈ ord, e.2 = -1 ∨ Adj ties e.2 e.1
  abv : ∀ e ∈ ord, e.2 = -1 ∨ e.2 ∈ (ord.take k).map (·.1)
  pw : ord.Pairwise fun a b => a.2 ≠ b.1
  done : ∀ e ∈ ord.take k, ∀ w, Adj ties e.1 w → w ≠ e.2 → (w, e.1) ∈ ord
  le : k ≤ ord.length
  rt : ∃ t, ord = (r, -1) :: t ∧ ∀ e ∈ t, 0 ≤ e.2
def kids (ties : List (Int × Int)) (e : Int × Int) : List (Int × Int) := ((nbr ties e.1).filter fun w => !decide (w = e.2)).map fun w => (w, e.1)
section
variable {n : Int} {ties : List (Int × Int)} {r : Int} {f : Int → Int} {ord : List (Int × Int)} {k : Nat} {e : Int × Int}
theorem DI.init (hr : 0 ≤ r ∧ r < n) (hf : Rooted ties r f) : DI n ties r f [(r, -1)] 0 where
  nd := by simp
  ent := fun e he => by
    have : e = (r, -1) := by simpa using he
    subst this
    exact ⟨hf.root.symm, hr⟩
  adj := fun e he => by
    have : e = (r, -1) := by simpa using he
    subst this
    exact .inl rfl
  abv := fun e he => by
    have : e = (r, -1) := by simpa using he
    subst this
    exact .inl rfl
  pw := by simp
  done := fun e he => by simp at he
  le := Nat.zero_le _
  rt := ⟨[], rfl, fun e he => by cases he⟩
theorem mem_kids {x : Int × Int} : x ∈ kids ties e ↔ x.2 = e.1 ∧ Adj ties e.1 x.1 ∧ x.1 ≠ e.2 := by
  unfold kids
  rw [List.mem_map]
  constructor
  · rintro ⟨w, hw, rfl⟩
    obtain ⟨h1, h2⟩ := List.mem_filter.mp hw
    exact ⟨rfl, mem_nbr.mp h1, by simpa using h2⟩
  · rintro ⟨h1, h2, h3⟩
    exact ⟨x.1, List.mem_filter.mpr ⟨mem_nbr.mpr h2, by simpa using h3⟩, by rw [← h1]⟩
theorem DI.fresh (w : Web n ties) (hf : Rooted ties r f) (I : DI n ties r f ord k) (he : ord[k]? = some e) {x : Int × Int} (hx : x ∈ kids ties e) : x.1 ∉ ord.map (·.1) ∧ f x.1 = e.1 := by
  obtain ⟨h1, h2, h3⟩ := mem_kids.mp hx
  have hem := List.mem_of_getElem? he
  have hfe := I.ent e hem
  have hfx : f x.1 = e.1 := by
    rcases hf.adj _ _ h2 with h | h
    · exact absurd (h.symm.trans hfe.1.symm) h3
    · exact h
  refine ⟨fun hm => ?_, hfx⟩
  obtain ⟨y, hy, ey⟩ := List.mem_map.mp hm
  have hy2 := I.ent y hy
  rw [ey, hfx] at hy2
  rcases I.abv y hy with h | h
  · omega
  · rw [hy2.1] at h
    have hk : k < ord.length := by
      rw [List.getElem?_eq_some_iff] at he
      exact he.1
    have hnd := I.nd
    have hsplit : ord = ord.take k ++ e :: ord.drop (k + 1) := by
      have e1 : ord[k] = e := by
        rw [List.getElem?_eq_getElem hk] at he
        exact Option.some.inj he
      rw [← e1, ← List.drop_eq_getElem_cons hk, List.take_append_drop]
    rw [hsplit, List.map_append, List.map_cons, List.nodup_append] at hnd
    exact hnd.2.2 _ h _ List.mem_cons_self rfl
theorem DI.step (w : Web n ties) (hd : ties.Nodup) (hf : Rooted ties r f) (I : DI n ties r f ord k) (he : ord[k]? = some e) : DI n ties r f (ord ++ kids ties e) (k + 1) := by
  have hk : k < ord.length := by
    rw [List.getElem?_eq_some_iff] at he
    exact he.1
  have hem := List.mem_of_getElem? he
  have htk : (ord ++ kids ties e).take (k + 1) = ord.take k ++ [e] := by
    rw [List.take_append_of_le_length (by omega), List.take_succ, he]
    rfl
  refine ⟨?_, fun x hx => ?_, fun x hx => ?_, fun x hx => ?_, ?_, fun x hx v hv hn => ?_, by rw [List.length_append]; omega, ?_⟩
  · rw [List.map_append, List.nodup_append]
    refine ⟨I.nd, ?_, fun a ha b hb => ?_⟩
    · unfold kids
      rw [List.map_map]
      refine (List.map_id' _).symm ▸ ?_
      exact (nbr_nodup w hd e.1).filter _
    · obtain ⟨x, hx, rfl⟩ := List.mem_map.mp hb
      exact fun q => (I.fresh w hf he hx).1 (q ▸ ha)
  · rcases List.mem_append.mp hx with hx | hx
    · exact I.ent x hx
    · obtain ⟨h1, h2, h3⟩ := mem_kids.mp hx
      have := adj_rg w h2
      exact ⟨by rw [(I.fresh w hf he hx).2, h1], by omega⟩
  · rcases List.mem_append.mp hx with hx | hx
    · exact I.adj x hx
    · obtain ⟨h1, h2, h3⟩ := mem_kids.mp hx
      right
      rw [h1]
      exact h2
  · rw [htk, List.map_append, List.mem_append]
    rcases List.mem_append.mp hx with hx | hx
    · rcases I.abv x hx with h | h
      · exact .inl h
      · exact .inr (.inl h)
    · right; right
      rw [(mem_kids.mp hx).1]
      simp
  · rw [List.pairwise_append]
    refine ⟨I.pw, ?_, fun a ha b hb q => ?_⟩
    · refine List.pairwise_of_forall_mem_list fun a ha b hb q => ?_
      refine (I.fresh w hf he hb).1 ?_
      rw [← q, (mem_kids.mp ha).1]
      exact List.mem_map_of_mem hem
    · have hb1 := I.fresh w hf he hb
      have hb2 := adj_rg w (mem_kids.mp hb).2.1
      rcases I.abv a ha with h | h
      · omega
      · rw [q] at h
        refine hb1.1 ?_
        obtain ⟨y, hy, ey⟩ := List.mem_map.mp h
        exact List.mem_map.mpr ⟨y, List.mem_of_mem_take hy, ey⟩
  · rw [htk] at hx
    rcases List.mem_append.mp hx with hx | hx
    · exact List.mem_append_left _ (I.done x hx v hv hn)
    · have : x = e := by simpa using hx
      subst this
      exact List.mem_append_right _ (mem_kids.mpr ⟨rfl, hv, hn⟩)
  · obtain ⟨t, ht, h0⟩ := I.rt
    refine ⟨t ++ kids ties e, by rw [ht]; rfl, fun x hx => ?_⟩
    rcases List.mem_append.mp hx with hx | hx
    · exact h0 x hx
    · rw [(mem_kids.mp hx).1]
      exact (I.ent e hem).2.1
theorem DI.len (I : DI n ties r f ord k) : ord.length ≤ n.toNat := by
  have := nodup_rng_len I.nd fun x hx => by
    obtain ⟨y, hy, rfl⟩ := List.mem_map.mp hx
    exact (I.ent y hy).2
  rw [List.length_map] at this
  exact this
/-- all is met -/
theorem DI.full (h : Tree n ties) (hr : 0 ≤ r ∧ r < n) (I : DI n ties r f ord ord.length) : (∀ v, 0 ≤ v → v < n → v ∈ ord.map (·.1)) ∧ ∀ v w, Adj ties v w → (w, v) ∈ ord ∨ (v, w) ∈ ord := by
  have tk : ord.take ord.length = ord := List.take_length
  have st : ∀ e ∈ ord, ∀ w, Adj ties e.1 w → (w, e.1) ∈ ord ∨ (e.1, w) ∈ ord := fun e he w hw => by
    by_cases q : w = e.2
    · right; rw [q]; exact he
    · left; exact I.done e (by rw [tk]; exact he) w hw q
  have all : ∀ v, 0 ≤ v → v < n → v ∈ ord.map (·.1) := by
    refine h.conn (S := fun v => v ∈ ord.map (·.1)) hr ?_ fun v w hv a => ?_
    · obtain ⟨t, ht, _⟩ := I.rt
      rw [ht]
      simp
    · obtain ⟨e, he, rfl⟩ := List.mem_map.mp hv
      by_cases q : w = e.2
      · rcases I.abv e he with h1 | h1
        · have := adj_rg h.web a; omega
        · rw [tk, ← q] at h1; exact h1
      · exact List.mem_map.mpr ⟨_, I.done e (by rw [tk]; exact he) w a q, rfl⟩
  refine ⟨all, fun v w a => ?_⟩
  have hv := adj_rg h.web a
  obtain ⟨e, he, q⟩ := List.mem_map.mp (all v hv.1 hv.2.1)
  rw [← q] at a ⊢
  exact st e he w a
end
end Tr
namespace Tr
open PySem L2 Mir
def stp (g : Int → Int) (e : Int × Int) : Int → Int := fun v => if 0 ≤ e.2 then (if v = e.2 then g v + g e.1 / 2 else g v) else g v
def mv (g : Int → Int) (a b : Int) : Int → Int := fun v => if v = a then g a - 2 else if v = b then g b + 1 else g v
inductive Re (ties : List (Int × Int)) (g : Int → Int) : (Int → Int) → Prop
  | refl : Re ties g g
  | step {h : Int → Int} {a b : Int} : Re ties g h → Adj ties a b → 2 ≤ h a → Re ties g (mv h a b)
theorem Re.trans {ties : List (Int × Int)} {g h k : Int → Int} (a : Re ties g h) (b : Re ties h k) : Re ties g k := by
  induction b with
  | refl => exact a
  | step _ h1 h2 ih => exact ih.step h1 h2
theorem moves {ties : List (Int × Int)} {a b : Int} (e : Adj ties a b) (ne : a ≠ b) : ∀ (k : Nat) (g : Int → Int), 2 * (k : Int) ≤ g a → Re ties g (fun v => if v = a then g a - 2 * k else if v = b then g b + k else g v)
  | 0, g, _ => by
    have : (fun v => if v = a then g a - 2 * ((0 : Nat) : Int) else if v = b then g b + ((0 : Nat) : Int) else g v) = g := by
      funext v
      by_cases h1 : v = a
      · rw [if_pos h1, h1]; simp
      · rw [if_neg h1]
        by_cases h2 : v = b
        · rw [if_pos h2, h2]; simp
        · rw [if_neg h2]
    rw [this]
    exact .refl
  | k + 1, g, h => by
    have ih := moves e ne k g (by omega)
    have := ih.step e (by rw [if_pos rfl]; omega)
    refine cast (congrArg (Re ties g) ?_) this
    funext v
    unfold mv
    by_cases h1 : v = a
    · rw [if_pos h1, if_pos h1]
      show (if a = a then _ else _) - 2 = _
      rw [if_pos rfl]; omega
    · rw [if_neg h1, if_neg h1]
      by_cases h2 : v = b
      · rw [if_pos h2, if_pos h2]
        show (if b = a then _ else if b = b then _ else _) + 1 = _
        rw [if_neg (fun q : b = a => ne q.symm), if_pos rfl]; omega
      · rw [if_neg h2, if_neg h2]
        show (if v = a then _ else if v = b then _ else _) = _
        rw [if_neg h1, if_neg h2]
section
variable {ties : List (Int × Int)} {r : Int}
/-- what the fold tells can be carried -/
theorem fold_reach : ∀ (l : List (Int × Int)), (l.map (·.1)).Nodup → l.Pairwise (fun a b => b.2 ≠ a.1) → (∀ e ∈ l, e.2 = -1 ∨ (Adj ties e.2 e.1 ∧ e.2 ≠ e.1 ∧ e.1 ≠ r)) → ∀ (C H : Int → Int) (U : Int → Prop), (∀ v, 0 ≤ C v) → (∀ v, U v → H v = C v) → U r → (∀ e ∈ l, U e.1 ∧ (0 ≤ e.2 → U e.2)) → ∃ H', Re ties H H' ∧ H' r = (l.foldl stp C) r
  | [], _, _, _, C, H, U, _, hU, hr, _ => ⟨H, .refl, hU r hr⟩
  | e :: l, nd, pw, ad, C, H, U, hC, hU, hr, hl => by
    obtain ⟨nd0, nd2⟩ := List.nodup_cons.mp nd
    have nd1 : ∀ x ∈ l, x.1 ≠ e.1 := fun x hx q => nd0 (List.mem_map.mpr ⟨x, hx, q⟩)
    obtain ⟨pw1, pw2⟩ := List.pairwise_cons.mp pw
    rw [List.foldl_cons]
    have ad' := fun x hx => ad x (List.mem_cons_of_mem _ hx)
    rcases ad e List.mem_cons_self with h | h
    · have : stp C e = C := by funext v; unfold stp; rw [if_neg (by omega)]
      rw [this]
      exact fold_reach l nd2 pw2 ad' C H U hC hU hr fun x hx => hl x (List.mem_cons_of_mem _ hx)
    · by_cases h0 : 0 ≤ e.2
      · obtain ⟨hu1, hu2⟩ := hl e List.mem_cons_self
        have hCe := hC e.1
        have hk : (((C e.1 / 2).toNat : Nat) : Int) = C e.1 / 2 := by omega
        have m := moves (ties := ties) h.1.symm (fun q => h.2.1 q.symm) (C e.1 / 2).toNat H (by rw [hU _ hu1, hk]; omega)
        rw [hk] at m
        obtain ⟨H', r1, r2⟩ := fold_reach l nd2 pw2 ad' (stp C e) (fun v => if v = e.1 then H e.1 - 2 * (C e.1 / 2) else if v = e.2 then H e.2 + C e.1 / 2 else H v) (fun v => U v ∧ v ≠ e.1) (fun v => by
            have := hC v
            unfold stp
            split <;> (try split) <;> omega) (fun v hv => by
            unfold stp
            rw [if_pos h0, if_neg hv.2]
            by_cases q : v = e.2
            · rw [if_pos q, if_pos q, hU _ (hu2 h0), q]
            · rw [if_neg q, if_neg q]
              exact hU v hv.1) ⟨hr, fun q => h.2.2 q.symm⟩ (fun x hx => by
            have := hl x (List.mem_cons_of_mem _ hx)
            exact ⟨⟨this.1, nd1 x hx⟩, fun z => ⟨this.2 z, pw1 x hx⟩⟩)
        exact ⟨H', m.trans r1, r2⟩
      · have : stp C e = C := by funext v; unfold stp; rw [if_neg h0]
        rw [this]
        exact fold_reach l nd2 pw2 ad' C H U hC hU hr fun x hx => hl x (List.mem_cons_of_mem _ hx)
theorem fold_mono : ∀ (l : List (Int × Int)) (X Y : Int → Int) (U : Int → Prop), (∀ e ∈ l, U e.1) → (∀ v, U v → Y v ≤ X v) → ∀ v, U v → (l.foldl stp Y) v ≤ (l.foldl stp X) v
  | [], X, Y, U, _, h, v, hv => h v hv
  | e :: l, X, Y, U, he, h, v, hv => by
    rw [List.foldl_cons, List.foldl_cons]
    refine fold_mono l _ _ U (fun x hx => he x (List.mem_cons_of_mem _ hx)) (fun v hv => ?_) v hv
    have h1 := h v hv
    have h2 := h e.1 (he e List.mem_cons_self)
    unfold stp
    split <;> (try split) <;> omega
theorem fold_pend {u w α β : Int} (hab : ∀ t : Int, (t + α) / 2 + β ≤ t / 2) (h0 : 0 ≤ w) (hr : r ≠ u) (huw : u ≠ w) : ∀ (l : List (Int × Int)), (l.map (·.1)).Nodup → l.Pairwise (fun a b => b.2 ≠ a.1) → (u, w) ∈ l → ∀ (X Y : Int → Int), Y u ≤ X u + α → Y w ≤ X w + β → (∀ v, v ≠ u → v ≠ w → Y v ≤ X v) → (l.foldl stp Y) r ≤ (l.foldl stp X) r
  | [], _, _, hm, _, _, _, _, _ => by cases hm
  | e :: l, nd, pw, hm, X, Y, h1, h2, h3 => by
    obtain ⟨nd0, nd2⟩ := List.nodup_cons.mp nd
    have nd1 : ∀ x ∈ l, x.1 ≠ e.1 := fun x hx q => nd0 (List.mem_map.mpr ⟨x, hx, q⟩)
    obtain ⟨pw1, pw2⟩ := List.pairwise_cons.mp pw
    rw [List.foldl_cons, List.foldl_cons]
    rcases List.mem_cons.mp hm with rfl | hm'
    · refine fold_mono l _ _ (fun v => v ≠ u) (fun x hx => nd1 x hx) (fun v hv => ?_) r hr
      unfold stp
      dsimp only
      rw [if_pos h0, if_pos h0]
      by_cases q : v = w
      · subst q
        rw [if_pos rfl, if_pos rfl]
        have := hab (X u)
        have : Y u / 2 ≤ (X u + α) / 2 := by omega
        omega
      · rw [if_neg q, if_neg q]
        exact h3 v hv q
    · have e1 : e.1 ≠ u := fun q => nd1 _ hm' q.symm
      have e2 : e.1 ≠ w := fun q => pw1 _ hm' q.symm
      have he := h3 e.1 e1 e2
      refine fold_pend hab h0 hr huw l nd2 pw2 hm' _ _ ?_ ?_ fun v a b => ?_
      · unfold stp; split <;> (try split) <;> omega
      · unfold stp; split <;> (try split) <;> omega
      · have := h3 v a b
        unfold stp; split <;> (try split) <;> omega
theorem fold_ge : ∀ (l : List (Int × Int)) (g : Int → Int), (∀ v, 0 ≤ g v) → ∀ v, g v ≤ (l.foldl stp g) v
  | [], g, _, v => Int.le_refl _
  | e :: l, g, h, v => by
    rw [List.foldl_cons]
    have h1 : ∀ v, g v ≤ stp g e v := fun v => by
      have := h e.1
      unfold stp
      split <;> (try split) <;> omega
    exact Int.le_trans (h1 v) (fold_ge l _ (fun v => Int.le_trans (h v) (h1 v)) v)
end
end Tr
namespace Tr
open PySem L2 Mir
section
variable {n : Int} {ties : List (Int × Int)} {r : Int} {f : Int → Int} {ord : List (Int × Int)}
theorem Re.nonneg {g h : Int → Int} (hg : ∀ v, 0 ≤ g v) (a : Re ties g h) : ∀ v, 0 ≤ h v := by
  induction a with
  | refl => exact hg
  | @step h a b _ _ h2 ih =>
    intro v
    have := ih v
    have := ih b
    unfold mv
    split <;> (try split) <;> omega
theorem col_mv (h : Tree n ties) (hr : 0 ≤ r ∧ r < n) (I : DI n ties r f ord ord.length) {g : Int → Int} {a b : Int} (e : Adj ties a b) : (ord.reverse.foldl stp (mv g a b)) r ≤ (ord.reverse.foldl stp g) r := by
  have hab := adj_rg h.web e
  have nd : (ord.reverse.map (·.1)).Nodup := by rw [List.map_reverse]; exact (List.reverse_perm _).nodup_iff.mpr I.nd
  have pw : ord.reverse.Pairwise (fun a b => b.2 ≠ a.1) := List.pairwise_reverse.mpr I.pw
  have root : ∀ u w, (u, w) ∈ ord → 0 ≤ w → r ≠ u := fun u w hm hw q => by
    subst q
    obtain ⟨t, ht, _⟩ := I.rt
    have h1 := (I.ent _ hm).1
    have h2 := (I.ent (r, -1) (by rw [ht]; simp)).1
    dsimp only at h1 h2
    omega
  rcases (I.full h hr).2 a b e with m | m
  · refine fold_pend (u := b) (w := a) (α := 1) (β := -2) (fun t => by omega) hab.1 (root _ _ m hab.1) (by omega) _ nd pw (List.mem_reverse.mpr m) _ _ ?_ ?_ fun v h1 h2 => ?_
    · unfold mv; rw [if_neg (by omega), if_pos rfl]; omega
    · unfold mv; rw [if_pos rfl]; omega
    · unfold mv; rw [if_neg h2, if_neg h1]; omega
  · refine fold_pend (u := a) (w := b) (α := -2) (β := 1) (fun t => by omega) hab.2.2.1 (root _ _ m hab.2.2.1) (by omega) _ nd pw (List.mem_reverse.mpr m) _ _ ?_ ?_ fun v h1 h2 => ?_
    · unfold mv; rw [if_pos rfl]; omega
    · unfold mv; rw [if_neg (by omega), if_pos rfl]; omega
    · unfold mv; rw [if_neg h1, if_neg h2]; omega
theorem col_iff (h : Tree n ties) (hr : 0 ≤ r ∧ r < n) (I : DI n ties r f ord ord.length) {g : Int → Int} (hg : ∀ v, 0 ≤ g v) : 0 < (ord.reverse.foldl stp g) r ↔ ∃ k, Re ties g k ∧ 0 < k r := by
  have nd : (ord.reverse.map (·.1)).Nodup := by rw [List.map_reverse]; exact (List.reverse_perm _).nodup_iff.mpr I.nd
  have pw : ord.reverse.Pairwise (fun a b => b.2 ≠ a.1) := List.pairwise_reverse.mpr I.pw
  constructor
  · intro hc
    obtain ⟨H', h1, h2⟩ := fold_reach (ties := ties) (r := r) ord.reverse nd pw (fun e he => by
      have hm := List.mem_reverse.mp he
      rcases I.adj e hm with q | q
      · exact .inl q
      · right
        have hq := adj_rg h.web q
        refine ⟨q, hq.2.2.2.2, fun z => ?_⟩
        obtain ⟨t, ht, _⟩ := I.rt
        have h1 := (I.ent _ hm).1
        have h2 := (I.ent (r, -1) (by rw [ht]; simp)).1
        rw [z] at h1
        dsimp only at h1 h2
        omega) g g (fun _ => True) hg (fun _ _ => rfl) trivial fun _ _ => ⟨trivial, fun _ => trivial⟩
    exact ⟨H', h1, by rw [h2]; exact hc⟩
  · rintro ⟨k, hk, hp⟩
    have h1 : (ord.reverse.foldl stp k) r ≤ (ord.reverse.foldl stp g) r := by
      clear hp
      induction hk with
      | refl => exact Int.le_refl _
      | step _ e _ ih => exact Int.le_trans (col_mv h hr I e) ih
    have h2 := fold_ge ord.reverse k (hk.nonneg hg) r
    omega
end
end Tr
namespace Tr
open PySem L2 Mir
/-! ### heaps as lists -/
theorem setO_eq {α : Type} {xs : List α} {i : Int} {x : α} (h : 0 ≤ i) (h' : i < xs.length) : setO xs i x = some (xs.set i.toNat x) := by
  unfold setO ixN
  rw [if_pos h, if_pos h']
  rfl
def fn (h : List Int) (v : Int) : Int := if 0 ≤ v then (h[v.toNat]?).getD 0 else 0
theorem at_fn {h : List Int} {v : Int} (h0 : 0 ≤ v) (h1 : v < h.length) : atO h v = some (fn h v) := by
  have : v.toNat < h.length := by omega
  unfold fn
  rw [atO_get h0, if_pos h0, List.getElem?_eq_getElem this]
  rfl
theorem fn_set {h : List Int} {a v x : Int} (h0 : 0 ≤ a) (h1 : a < h.length) : fn (h.set a.toNat x) v = if v = a then x else fn h v := by
  unfold fn
  by_cases q : v = a
  · subst q
    rw [if_pos h0, if_pos rfl, List.getElem?_set_self (by omega)]
    rfl
  · rw [if_neg q]
    by_cases hv : 0 ≤ v
    · rw [if_pos hv, if_pos hv, List.getElem?_set_ne (by omega)]
    · rw [if_neg hv, if_neg hv]
def mvL (h : List Int) (a b : Int) : List Int := (h.set a.toNat (fn h a - 2)).set b.toNat (fn h b + 1)
theorem mvL_len (h : List Int) (a b : Int) : (mvL h a b).length = h.length := by unfold mvL; rw [List.length_set, List.length_set]
theorem fn_mvL {h : List Int} {a b : Int} (ha : 0 ≤ a ∧ a < h.length) (hb : 0 ≤ b ∧ b < h.length) (ne : a ≠ b) : fn (mvL h a b) = mv (fn h) a b := by
  funext v
  unfold mvL mv
  rw [fn_set hb.1 (by rw [List.length_set]; exact hb.2), fn_set ha.1 ha.2]
  by_cases q : v = a
  · rw [if_pos q, if_pos q, if_neg (by omega)]
  · rw [if_neg q, if_neg q]
theorem sum_set : ∀ {h : List Int} {i : Nat} {x : Int}, i < h.length → (h.set i x).sum = h.sum - (h[i]?).getD 0 + x
  | y :: h, 0, x, _ => by simp [List.sum_cons]; omega
  | y :: h, i + 1, x, hi => by
    have := sum_set (h := h) (i := i) (x := x) (by simpa using hi)
    simp only [List.set_cons_succ, List.sum_cons, List.getElem?_cons_succ]
    omega
theorem sum_mvL {h : List Int} {a b : Int} (ha : 0 ≤ a ∧ a < h.length) (hb : 0 ≤ b ∧ b < h.length) (ne : a ≠ b) : (mvL h a b).sum = h.sum - 1 := by
  have e : fn (h.set a.toNat (fn h a - 2)) b = fn h b := by rw [fn_set ha.1 ha.2, if_neg (by omega)]
  unfold mvL
  rw [sum_set (by rw [List.length_set]; omega), sum_set (by omega)]
  unfold fn at e ⊢
  rw [if_pos hb.1] at e
  rw [if_pos hb.1] at e
  rw [if_pos ha.1, if_pos hb.1] at *
  omega
theorem le_sum : ∀ {h : List Int}, (∀ x ∈ h, 0 ≤ x) → 0 ≤ h.sum ∧ ∀ x ∈ h, x ≤ h.sum
  | [], _ => ⟨by simp, fun x hx => by cases hx⟩
  | y :: h, hp => by
    obtain ⟨h1, h2⟩ := le_sum (h := h) fun x hx => hp x (List.mem_cons_of_mem _ hx)
    have := hp y List.mem_cons_self
    rw [List.sum_cons]
    refine ⟨by omega, fun x hx => ?_⟩
    rcases List.mem_cons.mp hx with rfl | hx
    · omega
    · have := h2 x hx; omega
/-! ### how many there are -/
def vecs (m : Int) : Nat → List (List Int)
  | 0 => [[]]
  | k + 1 => (rng 0 m).flatMap fun x => (vecs m k).map fun r => x :: r
theorem mem_vecs {m : Int} : ∀ {k : Nat} {h : List Int}, h.length = k → (∀ x ∈ h, 0 ≤ x ∧ x < m) → h ∈ vecs m k
  | 0, [], _, _ => by simp [vecs]
  | k + 1, x :: h, hl, hx => by
    unfold vecs
    exact List.mem_flatMap.mpr ⟨x, mem_rng.mpr (hx x List.mem_cons_self), List.mem_map.mpr ⟨h, mem_vecs (by simpa using hl) fun y hy => hx y (List.mem_cons_of_mem _ hy), rfl⟩⟩
theorem vecs_len {m : Int} : ∀ {k : Nat}, (vecs m k).length = m.toNat ^ k
  | 0 => rfl
  | k + 1 => by
    unfold vecs
    rw [List.length_flatMap, List.map_congr_left (g := fun _ => m.toNat ^ k) fun x _ => by rw [List.length_map, vecs_len]]
    rw [List.map_const', List.sum_replicate_nat, rng_len]
    have : (m - 0).toNat = m.toNat := by omega
    rw [this, Nat.pow_succ, Nat.mul_comm]
end Tr
namespace Prog
open PySem L2 Mir
def topS (i : Nat) : Stmt := PySem.Challenge.pw_chasedwebs_k16_whole_pebbles.main.body.getD i (.Pass ⟨0, 0, 0, 0⟩)
abbrev s_beside : Stmt := topS 1
theorem sc_beside : FnScope ["ties", "place", "a", "b"] ["ties", "place"] (defScope s_beside) := ⟨rfl, rfl, rfl, by decide +kernel, rfl, by decide +kernel, by decide +kernel⟩
abbrev s_carried : Stmt := topS 3
theorem sc_carried : FnScope ["heap", "a", "b", "told"] ["heap", "a", "b"] (defScope s_carried) := ⟨rfl, rfl, rfl, by decide +kernel, rfl, by decide +kernel, by decide +kernel⟩
abbrev s_reaches : Stmt := topS 4
theorem sc_reaches : FnScope ["n", "ties", "heap", "place", "near", "found", "order", "at", "here", "a", "b", "after", "one"] ["n", "ties", "heap", "place"] (defScope s_reaches) := ⟨rfl, rfl, rfl, by decide +kernel, rfl, by decide +kernel, by decide +kernel⟩
abbrev s_downward : Stmt := topS 5
theorem sc_downward : FnScope ["ties", "root", "order", "at", "place", "above", "other"] ["ties", "root"] (defScope s_downward) := ⟨rfl, rfl, rfl, by decide +kernel, rfl, by decide +kernel, by decide +kernel⟩
abbrev s_tree_reaches : Stmt := topS 6
theorem sc_tree_reaches : FnScope ["n", "ties", "heap", "place", "left", "one", "above"] ["n", "ties", "heap", "place"] (defScope s_tree_reaches) := ⟨rfl, rfl, rfl, by decide +kernel, rfl, by decide +kernel, by decide +kernel⟩
abbrev s__law_state : Stmt := topS 8
theorem sc__law_state : FnScope ["script", "seed", "cell"] ["script"] (defScope s__law_state) := ⟨rfl, rfl, rfl, by decide +kernel, rfl, by decide +kernel, by decide +kernel⟩
abbrev s__law_draw : Stmt := topS 9
theorem sc__law_draw : FnScope ["state", "many", "cells", "value", "mixed"] ["state", "many"] (defScope s__law_draw) := ⟨rfl, rfl, rfl, by decide +kernel, rfl, by decide +kernel, by decide +kernel⟩
abbrev s__law_web : Stmt := topS 10
theorem sc__law_web : FnScope ["state", "n", "more", "ties", "place", "k", "a"] ["state", "n", "more"] (defScope s__law_web) := ⟨rfl, rfl, rfl, by decide +kernel, rfl, by decide +kernel, by decide +kernel⟩
abbrev s__law_ward : Stmt := topS 12
theorem sc__law_ward : FnScope ["ties", "place", "a", "b"] ["ties", "place"] (defScope s__law_ward) := ⟨rfl, rfl, rfl, by decide +kernel, rfl, by decide +kernel, by decide +kernel⟩
abbrev s__law_reaches : Stmt := topS 16
theorem sc__law_reaches : FnScope ["ties", "heap", "place", "found", "order", "at", "here", "a", "b", "after"] ["ties", "heap", "place"] (defScope s__law_reaches) := ⟨rfl, rfl, rfl, by decide +kernel, rfl, by decide +kernel, by decide +kernel⟩
abbrev s_law : Stmt := topS 17
theorem sc_law : FnScope ["script", "state", "turn", "n", "tree", "ties", "heap", "k", "spot", "place", "due", "said", "a", "b", "some", "after", "m", "great", "root", "above", "order", "at", "one", "left"] ["script"] (defScope s_law) := ⟨rfl, rfl, rfl, by decide +kernel, rfl, by decide +kernel, by decide +kernel⟩
structure Txt (mg : Str → Option Value) : Prop where
  b_abs : mg "abs" = none
  b_bool : mg "bool" = none
  b_int : mg "int" = none
  b_isinstance : mg "isinstance" = none
  b_len : mg "len" = none
  b_list : mg "list" = none
  b_range : mg "range" = none
  b_reversed : mg "reversed" = none
  b_sorted : mg "sorted" = none
  b_tuple : mg "tuple" = none
noncomputable def m_beside (ties : List (Int × Int)) (place : Int) : Option (List Int) :=
  (filtO (fun (x : Int × Int) => some (decide (place ∈ [x.1, x.2]))) (fun (x : Int × Int) => some ((x.1 + x.2) - place)) ties).map fun u => u.mergeSort leI
abbrev Kn_beside (P : Program) (w : World) (K : PySem.W.Frag) (mg : Str → Option Value) (base : Heap) : Prop := Knows P w K mg base "beside" 1 ["ties", "place"] (spP K (encC (dT (dP dI dI)) (encC dI enc0)) (dL dI) (fun a : (List (Int × Int)) × Int × Unit => m_beside a.1 a.2.1))
theorem k_beside {P : Program} {w : World} {K : PySem.W.Frag} {mg : Str → Option Value} {base : Heap} {f : Addr} {fd : FuncData} (F : Fun K "beside" "beside" s_beside f fd) (hm : mg "beside" = some (.ref f)) (hb : Binds K fd ["ties", "place"] []) (T : Txt mg)  : Kn_beside P w K mg base :=
  knows_fn F hm hb sc_beside (fun _ => rfl) (fun cdv A outer s0_ H E hr a => by
    obtain ⟨ties, place, _⟩ := a
    exact BX.conv ((b_retr (L1 := []) (EN.x (n_sorted srt_int hr (EX.l (EN.x (LCA.n (lp_if (own := [("a", 2), ("b", 3)]) (d := dI) (i_tup (x_var (d := (dT (dP dI dI))) (a := ties) 0)) (fun _ => trivial) (fun _ _ _ _ _ x => (y_tup (xs := [dI x.1, dI x.2]) rfl (ys_cons (y_name (s := .dat (dI x.1)) 2 sc_beside.nd) (ys_cons (y_name (s := .dat (dI x.2)) 3 sc_beside.nd) ys_nil)))) (fun _ _ _ _ _ x M => (t_in lw_int hr (x_var (d := dI) (a := place) 1) (EX.qt (x_th (d := dI) (h_cons (x_var (d := dI) (a := x.1) 2) (h_cons (x_var (d := dI) (a := x.2) 3) h_nil)))))) (fun _ _ _ _ _ x M => (x_op op_sub o_sub (x_op op_add o_add (x_var (d := dI) (a := x.1) 2) (x_var (d := dI) (a := x.2) 3)) (x_var (d := dI) (a := place) 1)))) sc_beside.nd (blkOk_by (own := [("a", 2), ("b", 3)]) (N := ["ties", "place", "a", "b"]) (sc := defScope s_beside) (by decide +kernel))))) T.b_sorted)))) (by kernel_rfl))
noncomputable def m_carried (heap : List Int) (a1 : Int) (b : Int) : Option (List Int) :=
  (tupO heap).bind fun told => (((atO told a1).bind fun u => some (u - 2)).bind fun u1 => setO told a1 u1).bind fun told1 => (((atO told1 b).bind fun u2 => some (u2 + 1)).bind fun u3 => setO told1 b u3).bind fun told2 => tupO told2
abbrev Kn_carried (P : Program) (w : World) (K : PySem.W.Frag) (mg : Str → Option Value) (base : Heap) : Prop := Knows P w K mg base "carried" 1 ["heap", "a", "b"] (spP K (encC (dT dI) (encC dI (encC dI enc0))) (dT dI) (fun a : (List Int) × Int × Int × Unit => m_carried a.1 a.2.1 a.2.2.1))
theorem k_carried {P : Program} {w : World} {K : PySem.W.Frag} {mg : Str → Option Value} {base : Heap} {f : Addr} {fd : FuncData} (F : Fun K "carried" "carried" s_carried f fd) (hm : mg "carried" = some (.ref f)) (hb : Binds K fd ["heap", "a", "b"] []) (T : Txt mg)  : Kn_carried P w K mg base :=
  knows_fn F hm hb sc_carried (fun _ => rfl) (fun cdv A outer s0_ H E hr a => by
    obtain ⟨heap, a1, b, _⟩ := a
    exact BX.conv ((b_setO 3 sc_carried.nd (EN.o (n_list (EX.qt (x_var (d := (dT dI)) (a := heap) 0)) T.b_list)) (fun p_told told => (b_step (s_setI (d := dI) (xs := told) 0 rfl (s_var (s := .ptr p_told) 3 rfl) (x_var (d := dI) (a := a1) 1) (x_op op_sub o_sub (x_ix (ES.q (d := dI) (xs := told) (s_var (s := .ptr p_told) 3 rfl) (mem_at (j := 0) rfl)) (x_var (d := dI) (a := a1) 1)) x_int)) (fun told1 => (b_step (s_setI (d := dI) (xs := told1) 0 rfl (s_var (s := .ptr p_told) 3 rfl) (x_var (d := dI) (a := b) 2) (x_op op_add o_add (x_ix (ES.q (d := dI) (xs := told1) (s_var (s := .ptr p_told) 3 rfl) (mem_at (j := 0) rfl)) (x_var (d := dI) (a := b) 2)) x_int)) (fun told2 => (b_retr (L1 := []) (x_tuple (ES.q (d := dI) (xs := told2) (s_var (s := .ptr p_told) 3 rfl) (mem_at (j := 0) rfl)) T.b_tuple))))))))) (by kernel_rfl))
noncomputable def m_reaches (fu : Nat) (n : Int) (ties : List (Int × Int)) (heap : List Int) (place : Int) : Option Bool :=
  ((rngL 0 n).bind fun u => mapO (fun (one : Int) => m_beside ties one) u).bind fun near => ((tupO heap).bind fun u1 => some ([(u1, true)])).bind fun found => ((tupO heap).bind fun u2 => some ([u2])).bind fun order => let at_ : Int := 0; (whileO (fun (s1 : Int × (List ((List Int) × Bool)) × (List (List Int))) => some (decide (s1.1 < (s1.2.2.length : Int)))) (fun (s1 : Int × (List ((List Int) × Bool)) × (List (List Int))) => ((atO s1.2.2 s1.1).bind fun here => let at_1 : Int := s1.1 + 1; ((atO here place).bind fun u3 => some (decide (u3 > 0))).bind fun u8 => if u8 then some (Fl.ex true) else ((rngO 0 n).bind fun u7 => foldO (fun (s2 : (List ((List Int) × Bool)) × (List (List Int))) (a1 : Int) => ((atO here a1).bind fun u4 => some (decide (u4 ≥ 2))).bind fun u6 => if u6 then ((atO near a1).bind fun u5 => foldO (fun (s3 : (List ((List Int) × Bool)) × (List (List Int))) (b : Int) => (m_carried here a1 b).bind fun after => if (!(dget s3.1 after).isSome) then (dputO s3.1 after true).bind fun found1 => (appO s3.2 after).bind fun order1 => some ((found1, order1)) else some ((s3.1, s3.2))) u5 (s2.1, s2.2)).bind fun s4 => some ((s4.1, s4.2)) else some ((s2.1, s2.2))) u7 (s1.2.1, s1.2.2)).bind fun s5 => some ((Fl.nx (at_1, s5.1, s5.2))) : Option (Fl (Int × (List ((List Int) × Bool)) × (List (List Int))) (Bool)))) fu (at_, found, order)).bind (Fx.on id fun s6 => some (false))
abbrev Kn_reaches (P : Program) (w : World) (K : PySem.W.Frag) (mg : Str → Option Value) (base : Heap) (fu : Nat) : Prop := Knows P w K mg base "reaches" 2 ["n", "ties", "heap", "place"] (spP K (encC dI (encC (dT (dP dI dI)) (encC (dT dI) (encC dI enc0)))) dB (fun a : Int × (List (Int × Int)) × (List Int) × Int × Unit => m_reaches fu a.1 a.2.1 a.2.2.1 a.2.2.2.1))
theorem k_reaches (fu : Nat) {P : Program} {w : World} {K : PySem.W.Frag} {mg : Str → Option Value} {base : Heap} {f : Addr} {fd : FuncData} (F : Fun K "reaches" "reaches" s_reaches f fd) (hm : mg "reaches" = some (.ref f)) (hb : Binds K fd ["n", "ties", "heap", "place"] []) (T : Txt mg) (K_beside : Kn_beside P w K mg base) (K_carried : Kn_carried P w K mg base) : Kn_reaches P w K mg base fu :=
  knows_fn F hm hb sc_reaches (fun _ => rfl) (fun cdv A outer s0_ H E hr a => by
    obtain ⟨n, ties, heap, place, _⟩ := a
    exact BX.conv ((b_step (LCA.s (lp_no (own := [("one", 12)]) (d := (dL dI)) (i_rangeL (x_var (d := dI) (a := n) 0) T.b_range) (fun _ => trivial) (fun _ _ _ _ _ one => (y_name (s := .dat (dI one)) 12 sc_reaches.nd)) (fun _ _ _ _ _ one M => (x_call K_beside hr (a_C (x_var (d := (dT (dP dI dI))) (a := ties) 1) (a_C (x_var (d := dI) (a := one) 12) a_0))))) 4 sc_reaches.nd (blkOk_by (own := [("one", 12)]) (N := ["n", "ties", "heap", "place", "near", "found", "order", "at", "here", "a", "b", "after", "one"]) (sc := defScope s_reaches) (by decide +kernel)) (sw_true rfl rfl rfl (by decide +kernel))) (fun near => (b_setO 5 sc_reaches.nd (e_disp1T ky_ints hr (fun M => (x_tuple (EX.qt (x_var (d := (dT dI)) (a := heap) 2)) T.b_tuple)) (fun M => x_bool)) (fun p_found found => (b_setO 6 sc_reaches.nd (EN.o (EN.conv (n_lh (d := (dT dI)) (h_cons (x_tuple (EX.qt (x_var (d := (dT dI)) (a := heap) 2)) T.b_tuple) h_nil)) (cl1 (tupO heap)))) (fun p_order order => (b_step (s_set 7 sc_reaches.nd x_int) (fun at_ => (b_stepF (vw := (fun s_ : Int × (List ((List Int) × Bool)) × (List (List Int)) => ([some (.dat (dI n)), none, none, some (.dat (dI place)), some (.dat ((dL (dL dI)) near)), some (.ptr p_found), some (.ptr p_order), some (.dat (dI s_.1)), none, none, none, none, none], [(p_found, odK true (dT dI) dB s_.2.1), (p_order, odL (dT dI) s_.2.2)]))) (rd := (fun r => (.dat (dB r), []))) id (s_while (vw := (fun s_ : Int × (List ((List Int) × Bool)) × (List (List Int)) => ([some (.dat (dI n)), none, none, some (.dat (dI place)), some (.dat ((dL (dL dI)) near)), some (.ptr p_found), some (.ptr p_order), some (.dat (dI s_.1)), none, none, none, none, none], [(p_found, odK true (dT dI) dB s_.2.1), (p_order, odL (dT dI) s_.2.2)]))) (rd := (fun r => (.dat (dB r), []))) (n := fu) (s0 := (at_, found, order)) (bs := [true, false, false, true, true, true, true, true, false, false, false, false, false]) PassesOwn.never (fun s1 => (t_cmp op_lt o_lt (x_var (d := dI) (a := s1.1) 7) (x_len (ES.q (d := (dT dI)) (xs := s1.2.2) (s_var (s := .ptr p_order) 6 rfl) (mem_at (j := 1) rfl)) T.b_len))) (fun s1 => (b_step (s_set 8 sc_reaches.nd (x_ix (ES.q (d := (dT dI)) (xs := s1.2.2) (s_var (s := .ptr p_order) 6 rfl) (mem_at (j := 1) rfl)) (x_var (d := dI) (a := s1.1) 7))) (fun here => (b_step (s_set 7 sc_reaches.nd (x_op op_add o_add (x_var (d := dI) (a := s1.1) 7) x_int)) (fun at_1 => (b_ifret (rd := (fun r => (.dat (dB r), []))) Fl.ex (t_cmp op_gt o_gt (x_ix (EX.qt (x_var (d := (dT dI)) (a := here) 8)) (x_var (d := dI) (a := place) 3)) x_int) (b_retr (L1 := []) x_bool) (b_step (vw := (fun s_ : (List ((List Int) × Bool)) × (List (List Int)) => ([some (.dat (dI n)), none, none, some (.dat (dI place)), some (.dat ((dL (dL dI)) near)), some (.ptr p_found), some (.ptr p_order), some (.dat (dI at_1)), some (.dat ((dT dI) here)), none, none, none, none], [(p_found, odK true (dT dI) dB s_.1), (p_order, odL (dT dI) s_.2)]))) (s_fold (vw := (fun s_ : (List ((List Int) × Bool)) × (List (List Int)) => ([some (.dat (dI n)), none, none, some (.dat (dI place)), some (.dat ((dL (dL dI)) near)), some (.ptr p_found), some (.ptr p_order), some (.dat (dI at_1)), some (.dat ((dT dI) here)), none, none, none, none], [(p_found, odK true (dT dI) dB s_.1), (p_order, odL (dT dI) s_.2)]))) (s0 := (s1.2.1, s1.2.2)) (bs := [true, false, false, true, true, true, true, true, true, false, false, false, false]) PassesOwn.never rfl (i_range (x_var (d := dI) (a := n) 0) T.b_range) (fun s2 a1 => (g_name 9 sc_reaches.nd)) (fun s2 a1 => (b_one (s_if (t_cmp op_ge o_ge (x_ix (EX.qt (x_var (d := (dT dI)) (a := here) 8)) (x_var (d := dI) (a := a1) 9)) x_int) (b_step (vw := (fun s_ : (List ((List Int) × Bool)) × (List (List Int)) => ([some (.dat (dI n)), none, none, some (.dat (dI place)), some (.dat ((dL (dL dI)) near)), some (.ptr p_found), some (.ptr p_order), some (.dat (dI at_1)), some (.dat ((dT dI) here)), some (.dat (dI a1)), none, none, none], [(p_found, odK true (dT dI) dB s_.1), (p_order, odL (dT dI) s_.2)]))) (s_fold (vw := (fun s_ : (List ((List Int) × Bool)) × (List (List Int)) => ([some (.dat (dI n)), none, none, some (.dat (dI place)), some (.dat ((dL (dL dI)) near)), some (.ptr p_found), some (.ptr p_order), some (.dat (dI at_1)), some (.dat ((dT dI) here)), some (.dat (dI a1)), none, none, none], [(p_found, odK true (dT dI) dB s_.1), (p_order, odL (dT dI) s_.2)]))) (s0 := (s2.1, s2.2)) (bs := [true, false, false, true, true, true, true, true, true, true, false, false, false]) PassesOwn.never rfl (i_lst (x_ix (EX.ql (x_var (d := (dL (dL dI))) (a := near) 4)) (x_var (d := dI) (a := a1) 9))) (fun s3 b => (g_name 10 sc_reaches.nd)) (fun s3 b => (b_step (s_set 11 sc_reaches.nd (x_call K_carried hr (a_C (x_var (d := (dT dI)) (a := here) 8) (a_C (x_var (d := dI) (a := a1) 9) (a_C (x_var (d := dI) (a := b) 10) a_0))))) (fun after => (b_one (s_if (t_dnotIn 0 (.t ky_ints) hr rfl (x_var (d := (dT dI)) (a := after) 11) (s_var (s := .ptr p_found) 5 rfl)) (b_step (s_dput (dv := dB) (kvs := s3.1) 0 (.t ky_ints) hr rfl (s_var (s := .ptr p_found) 5 rfl) (x_var (d := (dT dI)) (a := after) 11) x_bool) (fun found1 => (b_step (s_append (d := (dT dI)) (xs := s3.2) 1 rfl (s_var (s := .ptr p_order) 6 rfl) (x_var (d := (dT dI)) (a := after) 11)) (fun order1 => (b_end (b := (found1, order1)) [true, false, false, true, true, true, true, true, true, true, false, false, false] rfl))))) (b_end (b := (s3.1, s3.2)) [true, false, false, true, true, true, true, true, true, true, false, false, false] rfl)))))) (fun _ => trivial) rfl) (fun s4 => (b_end (b := (s4.1, s4.2)) [true, false, false, true, true, true, true, true, true, false, false, false, false] rfl))) (b_end (b := (s2.1, s2.2)) [true, false, false, true, true, true, true, true, true, false, false, false, false] rfl)))) (fun _ => trivial) rfl) (fun s5 => (b_end (b := (Fl.nx (at_1, s5.1, s5.2))) [true, false, false, true, true, true, true, true, false, false, false, false, false] rfl))))))))) rfl) (fun s6 => (b_retr (L1 := []) x_bool)))))))))))) (by kernel_rfl))
noncomputable def m_downward (fu : Nat) (ties : List (Int × Int)) (root : Int) : Option (List (Int × Int)) :=
  let order : List (Int × Int) := [(root, -1)]; let at_ : Int := 0; (loopO (fun (s1 : (List (Int × Int)) × Int) => some (decide (s1.2 < (s1.1.length : Int)))) (fun (s1 : (List (Int × Int)) × Int) => (atO s1.1 s1.2).bind fun q => (((m_beside ties q.1).bind fun u => filtO (fun (other : Int) => some (!decide (other = q.2))) (fun (other : Int) => some ((other, q.1))) u).bind fun u1 => catO s1.1 u1).bind fun order1 => some (let at_1 : Int := s1.2 + 1; (order1, at_1))) fu (order, at_)).bind fun s2 => some (s2.1)
abbrev Kn_downward (P : Program) (w : World) (K : PySem.W.Frag) (mg : Str → Option Value) (base : Heap) (fu : Nat) : Prop := Knows P w K mg base "downward" 2 ["ties", "root"] (spP K (encC (dT (dP dI dI)) (encC dI enc0)) (dL (dP dI dI)) (fun a : (List (Int × Int)) × Int × Unit => m_downward fu a.1 a.2.1))
theorem k_downward (fu : Nat) {P : Program} {w : World} {K : PySem.W.Frag} {mg : Str → Option Value} {base : Heap} {f : Addr} {fd : FuncData} (F : Fun K "downward" "downward" s_downward f fd) (hm : mg "downward" = some (.ref f)) (hb : Binds K fd ["ties", "root"] []) (T : Txt mg) (K_beside : Kn_beside P w K mg base) : Kn_downward P w K mg base fu :=
  knows_fn F hm hb sc_downward (fun _ => rfl) (fun cdv A outer s0_ H E hr a => by
    obtain ⟨ties, root, _⟩ := a
    exact BX.conv ((b_step (s_set 2 sc_downward.nd (EN.x (n_lh (d := (dP dI dI)) (h_cons (x_pair (x_var (d := dI) (a := root) 1) (x_neg x_int)) h_nil)))) (fun order => (b_step (s_set 3 sc_downward.nd x_int) (fun at_ => (b_step (vw := (fun s_ : (List (Int × Int)) × Int => ([some (.dat ((dT (dP dI dI)) ties)), none, some (.dat ((dL (dP dI dI)) s_.1)), some (.dat (dI s_.2)), none, none, none], []))) (s_loop (vw := (fun s_ : (List (Int × Int)) × Int => ([some (.dat ((dT (dP dI dI)) ties)), none, some (.dat ((dL (dP dI dI)) s_.1)), some (.dat (dI s_.2)), none, none, none], []))) (n := fu) (s0 := (order, at_)) (bs := [true, false, true, true, false, false, false]) PassesOwn.never (fun s1 => (t_cmp op_lt o_lt (x_var (d := dI) (a := s1.2) 3) (x_len (EX.ql (x_var (d := (dL (dP dI dI))) (a := s1.1) 2)) T.b_len))) (fun s1 => (b_step (s_asg (x_ix (EX.ql (x_var (d := (dL (dP dI dI))) (a := s1.1) 2)) (x_var (d := dI) (a := s1.2) 3)) (fun q => (g_tup (xs := [dI q.1, dI q.2]) rfl (gs_cons (g_name 4 sc_downward.nd) (gs_cons (g_name 5 sc_downward.nd) gs_nil))))) (fun q => (b_step (s_set 2 sc_downward.nd (EN.x (n_cat (EX.l (x_var (d := (dL (dP dI dI))) (a := s1.1) 2)) (EX.l (EN.x (LCA.n (lp_if (own := [("other", 6)]) (d := (dP dI dI)) (i_lst (x_call K_beside hr (a_C (x_var (d := (dT (dP dI dI))) (a := ties) 0) (a_C (x_var (d := dI) (a := q.1) 4) a_0)))) (fun _ => trivial) (fun _ _ _ _ _ other => (y_name (s := .dat (dI other)) 6 sc_downward.nd)) (fun _ _ _ _ _ other M => (t_cmp op_ne o_neI (x_var (d := dI) (a := other) 6) (x_var (d := dI) (a := q.2) 5))) (fun _ _ _ _ _ other M => (x_pair (x_var (d := dI) (a := other) 6) (x_var (d := dI) (a := q.1) 4)))) sc_downward.nd (blkOk_by (own := [("other", 6)]) (N := ["ties", "root", "order", "at", "place", "above", "other"]) (sc := defScope s_downward) (by decide +kernel)))))))) (fun order1 => (b_step (s_set 3 sc_downward.nd (x_op op_add o_add (x_var (d := dI) (a := s1.2) 3) x_int)) (fun at_1 => (b_end (b := (order1, at_1)) [true, false, true, true, false, false, false] rfl)))))))) rfl) (fun s2 => (b_retr (L1 := []) (x_var (d := (dL (dP dI dI))) (a := s2.1) 2))))))))) (by kernel_rfl))
noncomputable def m_tree_reaches (fu : Nat) (n : Int) (ties : List (Int × Int)) (heap : List Int) (place : Int) : Option Bool :=
  (tupO heap).bind fun left => (((m_downward fu ties place).map fun u => u.reverse).bind fun u5 => foldO (fun (s1 : List Int) (x : Int × Int) => if (decide (x.2 ≥ 0)) then (((atO s1 x.2).bind fun u2 => ((atO s1 x.1).map fun u1 => u1 / 2).bind fun u3 => some (u2 + u3)).bind fun u4 => setO s1 x.2 u4).bind fun left1 => some (left1) else some (s1)) u5 left).bind fun s2 => (atO s2 place).bind fun u6 => some (decide (u6 > 0))
abbrev Kn_tree_reaches (P : Program) (w : World) (K : PySem.W.Frag) (mg : Str → Option Value) (base : Heap) (fu : Nat) : Prop := Knows P w K mg base "tree_reaches" 3 ["n", "ties", "heap", "place"] (spP K (encC dI (encC (dT (dP dI dI)) (encC (dT dI) (encC dI enc0)))) dB (fun a : Int × (List (Int × Int)) × (List Int) × Int × Unit => m_tree_reaches fu a.1 a.2.1 a.2.2.1 a.2.2.2.1))
theorem k_tree_reaches (fu : Nat) {P : Program} {w : World} {K : PySem.W.Frag} {mg : Str → Option Value} {base : Heap} {f : Addr} {fd : FuncData} (F : Fun K "tree_reaches" "tree_reaches" s_tree_reaches f fd) (hm : mg "tree_reaches" = some (.ref f)) (hb : Binds K fd ["n", "ties", "heap", "place"] []) (T : Txt mg) (K_downward : Kn_downward P w K mg base fu) : Kn_tree_reaches P w K mg base fu :=
  knows_fn F hm hb sc_tree_reaches (fun _ => rfl) (fun cdv A outer s0_ H E hr a => by
    obtain ⟨n, ties, heap, place, _⟩ := a
    exact BX.conv ((b_setO 4 sc_tree_reaches.nd (EN.o (n_list (EX.qt (x_var (d := (dT dI)) (a := heap) 2)) T.b_list)) (fun p_left left => (b_step (vw := (fun s_ : List Int => ([none, none, none, some (.dat (dI place)), some (.ptr p_left), none, none], [(p_left, odL dI s_)]))) (s_fold (vw := (fun s_ : List Int => ([none, none, none, some (.dat (dI place)), some (.ptr p_left), none, none], [(p_left, odL dI s_)]))) (s0 := left) (bs := [false, false, false, true, true, false, false]) PassesOwn.never rfl (i_revL (x_call K_downward hr (a_C (x_var (d := (dT (dP dI dI))) (a := ties) 1) (a_C (x_var (d := dI) (a := place) 3) a_0))) T.b_reversed) (fun s1 x => (g_tup (xs := [dI x.1, dI x.2]) rfl (gs_cons (g_name 5 sc_tree_reaches.nd) (gs_cons (g_name 6 sc_tree_reaches.nd) gs_nil)))) (fun s1 x => (b_one (s_if (t_cmp op_ge o_ge (x_var (d := dI) (a := x.2) 6) x_int) (b_step (s_setI (d := dI) (xs := s1) 0 rfl (s_var (s := .ptr p_left) 4 rfl) (x_var (d := dI) (a := x.2) 6) (x_op op_add o_add (x_ix (ES.q (d := dI) (xs := s1) (s_var (s := .ptr p_left) 4 rfl) (mem_at (j := 0) rfl)) (x_var (d := dI) (a := x.2) 6)) (x_divL (x_ix (ES.q (d := dI) (xs := s1) (s_var (s := .ptr p_left) 4 rfl) (mem_at (j := 0) rfl)) (x_var (d := dI) (a := x.1) 5))))) (fun left1 => (b_end (b := left1) [false, false, false, true, true, false, false] rfl))) (b_end (b := s1) [false, false, false, true, true, false, false] rfl)))) (fun _ => trivial) rfl) (fun s2 => (b_retr (L1 := []) (x_cmp op_gt o_gt (x_ix (ES.q (d := dI) (xs := s2) (s_var (s := .ptr p_left) 4 rfl) (mem_at (j := 0) rfl)) (x_var (d := dI) (a := place) 3)) x_int))))))) (by kernel_rfl))
noncomputable def m__law_state (script : List Int) : Option DS :=
  let seed : Int := 7; (foldO (fun (s1 : Int) (cell : Int) => some (let seed1 : Int := ((s1 * 31) + cell) % 1000003; seed1)) script seed).bind fun s2 => ((tupO script).bind fun u => mapO (fun (cell1 : Int) => some (if cell1 < 0 then -cell1 else cell1)) u).bind fun u1 => some ((u1, s2 + 1))
abbrev Kn__law_state (P : Program) (w : World) (K : PySem.W.Frag) (mg : Str → Option Value) (base : Heap) : Prop := Knows P w K mg base "_law_state" 1 ["script"] (spS K m__law_state)
theorem k__law_state {P : Program} {w : World} {K : PySem.W.Frag} {mg : Str → Option Value} {base : Heap} {f : Addr} {fd : FuncData} (F : Fun K "_law_state" "_law_state" s__law_state f fd) (hm : mg "_law_state" = some (.ref f)) (hb : Binds K fd ["script"] []) (T : Txt mg) : Kn__law_state P w K mg base :=
  knows_state F hm hb sc__law_state rfl (fun cdv A outer s0_ H E hr script => BX.conv ((b_step (s_set 1 sc__law_state.nd x_int) (fun seed => (b_step (vw := (fun s_ : Int => ([some (.scr script), some (.dat (dI s_)), none], []))) (s_fold (vw := (fun s_ : Int => ([some (.scr script), some (.dat (dI s_)), none], []))) (s0 := seed) (bs := [true, true, false]) PassesOwn.never rfl (i_scr (s_var (s := .scr script) 0 rfl)) (fun s1 cell => (g_name 2 sc__law_state.nd)) (fun s1 cell => (b_step (s_set 1 sc__law_state.nd (x_modL (x_t1 call_int1 c_int (x_op op_add o_add (x_mulL (x_var (d := dI) (a := s1) 1)) (x_var (d := dI) (a := cell) 2)) T.b_int (by decide +kernel)))) (fun seed1 => (b_end (b := seed1) [true, true, false] rfl)))) (fun _ => trivial) rfl) (fun s2 => (b_retLD (LCA.n (lp_no (own := [("cell", 2)]) (d := dI) (i_scrL (s_var (s := .scr script) 0 rfl)) (fun _ => trivial) (fun _ _ _ _ _ cell1 => (y_name (s := .dat (dI cell1)) 2 sc__law_state.nd)) (fun _ _ _ _ _ cell1 M => (x_b1 call_abs c_abs (x_var (d := dI) (a := cell1) 2) T.b_abs (by decide +kernel)))) sc__law_state.nd (blkOk_by (own := [("cell", 2)]) (N := ["script", "seed", "cell"]) (sc := defScope s__law_state) (by decide +kernel))) (fun p_ xs_ => (x_op op_add o_add (x_var (d := dI) (a := s2) 1) x_int)))))))) rfl)
noncomputable abbrev m__law_draw (many : Int) (w_ : DS) : Option (Int × DS) := drawM many w_
abbrev Kn__law_draw (P : Program) (w : World) (K : PySem.W.Frag) (mg : Str → Option Value) (base : Heap) : Prop := Knows P w K mg base "_law_draw" 1 ["state", "many"] (fun vs H Q E => ∃ i : Addr × Addr, spG K (encS (.ptr i.1) (encC dI enc0)) dI (fun w : DS => LD i.1 i.2 w) (fun (a : Int × Unit) w => m__law_draw a.1 w) vs H Q E)
theorem k__law_draw {P : Program} {w : World} {K : PySem.W.Frag} {mg : Str → Option Value} {base : Heap} {f : Addr} {fd : FuncData} (F : Fun K "_law_draw" "_law_draw" s__law_draw f fd) (hm : mg "_law_draw" = some (.ref f)) (hb : Binds K fd ["state", "many"] []) (T : Txt mg) : Kn__law_draw P w K mg base :=
  knows_fnW F hm hb sc__law_draw (fun _ _ => rfl) (fun cdv A outer s0_ H E hr i_ a w_ => by
    obtain ⟨s, c⟩ := i_
    obtain ⟨many, _⟩ := a
    exact BX.conv (b_step (s_setS 2 sc__law_draw.nd (s_ixO 0 rfl (s_var (s := .ptr s) 0 rfl) rfl)) (fun _ =>
      (b_step (vw := (fun cs : List Int => ([some (.ptr s), some (.dat (dI many)), some (.ptr c), none, none], [(s, .lst [.ptr c, .dat (dI w_.2)]), (c, odL dI cs)]))) (s_loop (vw := (fun cs : List Int => ([some (.ptr s), some (.dat (dI many)), some (.ptr c), none, none], [(s, .lst [.ptr c, .dat (dI w_.2)]), (c, odL dI cs)]))) (n := w_.1.length + 1) (s0 := w_.1) (bs := [true, true, true, true, true]) PassesOwn.never
        (fun cs => (WX.t (w_and (t_cmp op_gt o_gt (x_len (ES.q (d := dI) (xs := cs) (s_var (s := .ptr c) 2 rfl) (mem_at (j := 1) rfl)) T.b_len) x_int) (w_and1 (t_cmp op_eq o_eqI (x_ix (ES.q (d := dI) (xs := cs) (s_var (s := .ptr c) 2 rfl) (mem_at (j := 1) rfl)) x_int) x_int)))))
        (fun cs => (b_step (s_pop (d := dI) (xs := cs) 1 rfl (s_var (s := .ptr c) 2 rfl) x_int) (fun q => (b_end (b := q.2) [true, true, true, true, true] rfl)))) rfl)
      (fun cs => (b_ifF (t_cmp op_gt o_gt (x_len (ES.q (d := dI) (xs := cs) (s_var (s := .ptr c) 2 rfl) (mem_at (j := 1) rfl)) T.b_len) x_int)
        (b_step (s_set 3 sc__law_draw.nd (x_ix (ES.q (d := dI) (xs := cs) (s_var (s := .ptr c) 2 rfl) (mem_at (j := 1) rfl)) x_int)) (fun v => (b_step (s_setI (d := dI) (xs := cs) 1 rfl (s_var (s := .ptr c) 2 rfl) x_int (x_op op_fdivN o_fdiv (x_var (d := dI) (a := v) 3) (x_var (d := dI) (a := many) 1)))
          (fun cs2 => (b_ret (L1 := LD s c (cs2, w_.2)) (L2 := []) (fun z => (z, (cs2, w_.2))) (x_op op_modN o_fmod (x_t1 call_int1 c_int (x_var (d := dI) (a := v) 3) T.b_int (by decide +kernel)) (x_var (d := dI) (a := many) 1)) (fun _ => rfl))))))
        (b_step (s_set 4 sc__law_draw.nd (x_modL (x_t1 call_int1 c_int (x_op op_add o_add (x_mulL (ES.x (d := dI) (a := w_.2) (s_ixO 0 rfl (s_var (s := .ptr s) 0 rfl) rfl))) x_int) T.b_int (by decide +kernel)))) (fun mixed => (b_step (s_setIO (d := dI) 0 rfl (s_var (s := .ptr s) 0 rfl) (x_var (d := dI) (a := mixed) 4) rfl)
          (fun mixed2 => (b_ret (L1 := LD s c (cs, mixed2)) (L2 := []) (fun z => (z, (cs, mixed2))) (x_op op_modN o_fmod (x_t1 call_int1 c_int (x_divL (x_var (d := dI) (a := mixed) 4)) T.b_int (by decide +kernel)) (x_var (d := dI) (a := many) 1)) (fun _ => rfl))))))))))) (draw_eq many w_))
noncomputable def m__law_web (n : Int) (more : Int) (w_ : DS) : Option ((List (Int × Int)) × DS) :=
  let ties : List ((Int × Int) × Bool) := []; ((rngO 1 n).bind fun u3 => foldO (fun (s1 : (List ((Int × Int) × Bool)) × DS) (place : Int) => (((m__law_draw place s1.2).bind fun u1 => some ((u1.1, place), u1.2)).bind fun u2 => (dputO s1.1 u2.1 true).map fun z => (z, u2.2)).bind fun ties1 => some ((ties1.1, ties1.2))) u3 (ties, w_)).bind fun s2 => ((rngO 0 more).bind fun u10 => foldO (fun (s3 : (List ((Int × Int) × Bool)) × DS) (k : Int) => if (decide (n > 1)) then (m__law_draw (n - 1) s3.2).bind fun a1 => ((((m__law_draw ((n - 1) - a1.1) a1.2).bind fun u7 => some ((a1.1 + 1) + u7.1, u7.2)).bind fun u8 => some ((a1.1, u8.1), u8.2)).bind fun u9 => (dputO s3.1 u9.1 true).map fun z => (z, u9.2)).bind fun ties2 => some ((ties2.1, ties2.2)) else some ((s3.1, s3.2))) u10 (s2.1, s2.2)).bind fun s4 => (tupO ((s4.1.map (·.1)).mergeSort leP)).map fun u11 => (u11, s4.2)
abbrev Kn__law_web (P : Program) (w : World) (K : PySem.W.Frag) (mg : Str → Option Value) (base : Heap) : Prop := Knows P w K mg base "_law_web" 2 ["state", "n", "more"] (fun vs H Q E => ∃ i : Addr × Addr, spG K (encS (.ptr i.1) (encC dI (encC dI enc0))) (dT (dP dI dI)) (fun w : DS => LD i.1 i.2 w) (fun (a : Int × Int × Unit) w => m__law_web a.1 a.2.1 w) vs H Q E)
theorem k__law_web {P : Program} {w : World} {K : PySem.W.Frag} {mg : Str → Option Value} {base : Heap} {f : Addr} {fd : FuncData} (F : Fun K "_law_web" "_law_web" s__law_web f fd) (hm : mg "_law_web" = some (.ref f)) (hb : Binds K fd ["state", "n", "more"] []) (T : Txt mg) (K__law_draw : Kn__law_draw P w K mg base) : Kn__law_web P w K mg base :=
  knows_fnW F hm hb sc__law_web (fun _ _ => rfl) (fun cdv A outer s0_ H E hr i_ a w_ => by
    obtain ⟨s, c⟩ := i_
    obtain ⟨n, more, _⟩ := a
    exact BX.conv ((b_setO 3 sc__law_web.nd (e_dictT (dP dI dI) dB) (fun p_ties ties => (b_step (vw := (fun s_ : (List ((Int × Int) × Bool)) × DS => ([some (.ptr s), some (.dat (dI n)), some (.dat (dI more)), some (.ptr p_ties), none, none, none], LD s c s_.2 ++ [(p_ties, odK true (dP dI dI) dB s_.1)]))) (s_fold (vw := (fun s_ : (List ((Int × Int) × Bool)) × DS => ([some (.ptr s), some (.dat (dI n)), some (.dat (dI more)), some (.ptr p_ties), none, none, none], LD s c s_.2 ++ [(p_ties, odK true (dP dI dI) dB s_.1)]))) (s0 := (ties, w_)) (bs := [true, true, true, true, false, false, false]) PassesOwn.never rfl (i_range2 x_int (x_var (d := dI) (a := n) 1) T.b_range) (fun s1 place => (g_name 4 sc__law_web.nd)) (fun s1 place => (b_step (s_dputM (kvf := fun _ => s1.1) (Lf := fun w : DS => LD s c w ++ [(p_ties, odK true (dP dI dI) dB s1.1)]) (w0 := s1.2) 2 (.t ky_pair) hr (fun _ => rfl) (fun _ => s_var (s := .ptr p_ties) 3 rfl) (fun a_u w_u => (m_pair (m_call (Lf := LD s c) (Lr := ([(p_ties, odK true (dP dI dI) dB s1.1)])) (fun _ _ => rfl) (K__law_draw.at_ (s, c)) hr (AX.m (Lf := fun w : DS => LD s c w ++ [(p_ties, odK true (dP dI dI) dB s1.1)]) (w := w_u) (a_S (s_var (s := .ptr s) 0 rfl) (a_C (x_var (d := dI) (a := place) 4) a_0)))) (fun a_u1 w_u1 => (EX.m (Lf := fun w : DS => LD s c w ++ [(p_ties, odK true (dP dI dI) dB s1.1)]) (w := w_u1) (x_var (d := dI) (a := place) 4))))) (EX.m (Lf := fun w : DS => LD s c w ++ [(p_ties, odK true (dP dI dI) dB s1.1)]) (w := s1.2) x_bool)) (fun ties1 => (b_end (b := (ties1.1, ties1.2)) [true, true, true, true, false, false, false] rfl)))) (fun _ => trivial) rfl) (fun s2 => (b_step (vw := (fun s_ : (List ((Int × Int) × Bool)) × DS => ([some (.ptr s), some (.dat (dI n)), none, some (.ptr p_ties), none, none, none], LD s c s_.2 ++ [(p_ties, odK true (dP dI dI) dB s_.1)]))) (s_fold (vw := (fun s_ : (List ((Int × Int) × Bool)) × DS => ([some (.ptr s), some (.dat (dI n)), none, some (.ptr p_ties), none, none, none], LD s c s_.2 ++ [(p_ties, odK true (dP dI dI) dB s_.1)]))) (s0 := (s2.1, s2.2)) (bs := [true, true, false, true, false, false, false]) PassesOwn.never rfl (i_range (x_var (d := dI) (a := more) 2) T.b_range) (fun s3 k => (g_name 5 sc__law_web.nd)) (fun s3 k => (b_one (s_if (t_cmp op_gt o_gt (x_var (d := dI) (a := n) 1) x_int) (b_step (s_setM (Lf := fun w : DS => LD s c w ++ [(p_ties, odK true (dP dI dI) dB s3.1)]) (w := s3.2) 6 sc__law_web.nd (m_call (Lf := LD s c) (Lr := ([(p_ties, odK true (dP dI dI) dB s3.1)])) (fun _ _ => rfl) (K__law_draw.at_ (s, c)) hr (AX.m (Lf := fun w : DS => LD s c w ++ [(p_ties, odK true (dP dI dI) dB s3.1)]) (w := s3.2) (a_S (s_var (s := .ptr s) 0 rfl) (a_C (x_op op_sub o_sub (x_var (d := dI) (a := n) 1) x_int) a_0))))) (fun a1 => (b_step (s_dputM (kvf := fun _ => s3.1) (Lf := fun w : DS => LD s c w ++ [(p_ties, odK true (dP dI dI) dB s3.1)]) (w0 := a1.2) 2 (.t ky_pair) hr (fun _ => rfl) (fun _ => s_var (s := .ptr p_ties) 3 rfl) (fun a_u4 w_u4 => (m_pair (EX.m (Lf := fun w : DS => LD s c w ++ [(p_ties, odK true (dP dI dI) dB s3.1)]) (w := w_u4) (x_var (d := dI) (a := a1.1) 6)) (fun a_u5 w_u5 => (m_op op_add o_add (EX.m (Lf := fun w : DS => LD s c w ++ [(p_ties, odK true (dP dI dI) dB s3.1)]) (w := w_u5) (x_op op_add o_add (x_var (d := dI) (a := a1.1) 6) x_int)) (fun a_u6 w_u6 => (m_call (Lf := LD s c) (Lr := ([(p_ties, odK true (dP dI dI) dB s3.1)])) (fun _ _ => rfl) (K__law_draw.at_ (s, c)) hr (AX.m (Lf := fun w : DS => LD s c w ++ [(p_ties, odK true (dP dI dI) dB s3.1)]) (w := w_u6) (a_S (s_var (s := .ptr s) 0 rfl) (a_C (x_op op_sub o_sub (x_op op_sub o_sub (x_var (d := dI) (a := n) 1) x_int) (x_var (d := dI) (a := a1.1) 6)) a_0))))))))) (EX.m (Lf := fun w : DS => LD s c w ++ [(p_ties, odK true (dP dI dI) dB s3.1)]) (w := a1.2) x_bool)) (fun ties2 => (b_end (b := (ties2.1, ties2.2)) [true, true, false, true, false, false, false] rfl))))) (b_end (b := (s3.1, s3.2)) [true, true, false, true, false, false, false] rfl)))) (fun _ => trivial) rfl) (fun s4 => (b_retM (Lf := LD s c) (Lr := ([(p_ties, odK true (dP dI dI) dB s4.1)])) (EX.m (Lf := fun w : DS => LD s c w ++ [(p_ties, odK true (dP dI dI) dB s4.1)]) (w := s4.2) (x_tuple (EX.ql (EN.x (n_sortedDT (dv := dB) (kvs := s4.1) 2 ky_pair srt_pair rfl hr rfl (s_var (s := .ptr p_ties) 3 rfl) T.b_sorted))) T.b_tuple)))))))))) (by kernel_rfl))
noncomputable def m__law_ward (ties : List (Int × Int)) (place : Int) : Option (List Int) :=
  (((filtO (fun (x : Int × Int) => some (decide (x.1 = place))) (fun (x : Int × Int) => some (x.2)) ties).bind fun u => catO [place] u).bind fun u1 => (filtO (fun (x1 : Int × Int) => some (decide (x1.2 = place))) (fun (x1 : Int × Int) => some (x1.1)) ties).bind fun u2 => catO u1 u2).map fun u3 => u3.mergeSort leI
abbrev Kn__law_ward (P : Program) (w : World) (K : PySem.W.Frag) (mg : Str → Option Value) (base : Heap) : Prop := Knows P w K mg base "_law_ward" 1 ["ties", "place"] (spP K (encC (dT (dP dI dI)) (encC dI enc0)) (dL dI) (fun a : (List (Int × Int)) × Int × Unit => m__law_ward a.1 a.2.1))
theorem k__law_ward {P : Program} {w : World} {K : PySem.W.Frag} {mg : Str → Option Value} {base : Heap} {f : Addr} {fd : FuncData} (F : Fun K "_law_ward" "_law_ward" s__law_ward f fd) (hm : mg "_law_ward" = some (.ref f)) (hb : Binds K fd ["ties", "place"] []) (T : Txt mg)  : Kn__law_ward P w K mg base :=
  knows_fn F hm hb sc__law_ward (fun _ => rfl) (fun cdv A outer s0_ H E hr a => by
    obtain ⟨ties, place, _⟩ := a
    exact BX.conv ((b_retr (L1 := []) (EN.x (n_sorted srt_int hr (EX.l (EN.x (n_cat (EX.l (EN.x (n_cat (EX.l (EN.x (n_lh (d := dI) (h_cons (x_var (d := dI) (a := place) 1) h_nil)))) (EX.l (EN.x (LCA.n (lp_if (own := [("a", 2), ("b", 3)]) (d := dI) (i_tup (x_var (d := (dT (dP dI dI))) (a := ties) 0)) (fun _ => trivial) (fun _ _ _ _ _ x => (y_tup (xs := [dI x.1, dI x.2]) rfl (ys_cons (y_name (s := .dat (dI x.1)) 2 sc__law_ward.nd) (ys_cons (y_name (s := .dat (dI x.2)) 3 sc__law_ward.nd) ys_nil)))) (fun _ _ _ _ _ x M => (t_cmp op_eq o_eqI (x_var (d := dI) (a := x.1) 2) (x_var (d := dI) (a := place) 1))) (fun _ _ _ _ _ x M => (x_var (d := dI) (a := x.2) 3))) sc__law_ward.nd (blkOk_by (own := [("a", 2), ("b", 3)]) (N := ["ties", "place", "a", "b"]) (sc := defScope s__law_ward) (by decide +kernel)))))))) (EX.l (EN.x (LCA.n (lp_if (own := [("a", 2), ("b", 3)]) (d := dI) (i_tup (x_var (d := (dT (dP dI dI))) (a := ties) 0)) (fun _ => trivial) (fun _ _ _ _ _ x1 => (y_tup (xs := [dI x1.1, dI x1.2]) rfl (ys_cons (y_name (s := .dat (dI x1.1)) 2 sc__law_ward.nd) (ys_cons (y_name (s := .dat (dI x1.2)) 3 sc__law_ward.nd) ys_nil)))) (fun _ _ _ _ _ x1 M => (t_cmp op_eq o_eqI (x_var (d := dI) (a := x1.2) 3) (x_var (d := dI) (a := place) 1))) (fun _ _ _ _ _ x1 M => (x_var (d := dI) (a := x1.1) 2))) sc__law_ward.nd (blkOk_by (own := [("a", 2), ("b", 3)]) (N := ["ties", "place", "a", "b"]) (sc := defScope s__law_ward) (by decide +kernel)))))))) T.b_sorted)))) (by kernel_rfl))
noncomputable def m__law_reaches (fu : Nat) (ties : List (Int × Int)) (heap : List Int) (place : Int) : Option Bool :=
  let found : List ((List Int) × Bool) := [(heap, true)]; let order : List (List Int) := [heap]; let at_ : Int := 0; (whileO (fun (s1 : Int × (List ((List Int) × Bool)) × (List (List Int))) => some (decide (s1.1 < (s1.2.2.length : Int)))) (fun (s1 : Int × (List ((List Int) × Bool)) × (List (List Int))) => ((atO s1.2.2 s1.1).bind fun here => let at_1 : Int := s1.1 + 1; ((atO here place).bind fun u => some (decide (u > 0))).bind fun u14 => if u14 then some (Fl.ex true) else (((tupO ties).bind fun u1 => (mapO (fun (x1 : Int × Int) => some ((x1.2, x1.1))) ties).bind fun u2 => catO u1 u2).bind fun u13 => foldO (fun (s2 : (List ((List Int) × Bool)) × (List (List Int))) (x : Int × Int) => ((atO here x.1).bind fun u3 => some (decide (u3 > 1))).bind fun u12 => if u12 then (tupO here).bind fun after => (((atO here x.1).bind fun u4 => some (u4 - 2)).bind fun u6 => ((atO here x.2).bind fun u5 => some (u5 + 1)).bind fun u7 => (setO after x.1 u6).bind fun z => (setO z x.2 u7).map fun w => (z, w)).bind fun q => ((tupO q.2).map fun u8 => !(dget s2.1 u8).isSome).bind fun u11 => if u11 then ((tupO q.2).bind fun u9 => dputO s2.1 u9 true).bind fun found1 => ((tupO q.2).bind fun u10 => appO s2.2 u10).bind fun order1 => some ((found1, order1)) else some ((s2.1, s2.2)) else some ((s2.1, s2.2))) u13 (s1.2.1, s1.2.2)).bind fun s3 => some ((Fl.nx (at_1, s3.1, s3.2))) : Option (Fl (Int × (List ((List Int) × Bool)) × (List (List Int))) (Bool)))) fu (at_, found, order)).bind (Fx.on id fun s4 => some (false))
abbrev Kn__law_reaches (P : Program) (w : World) (K : PySem.W.Frag) (mg : Str → Option Value) (base : Heap) (fu : Nat) : Prop := Knows P w K mg base "_law_reaches" 1 ["ties", "heap", "place"] (spP K (encC (dT (dP dI dI)) (encC (dT dI) (encC dI enc0))) dB (fun a : (List (Int × Int)) × (List Int) × Int × Unit => m__law_reaches fu a.1 a.2.1 a.2.2.1))
theorem k__law_reaches (fu : Nat) {P : Program} {w : World} {K : PySem.W.Frag} {mg : Str → Option Value} {base : Heap} {f : Addr} {fd : FuncData} (F : Fun K "_law_reaches" "_law_reaches" s__law_reaches f fd) (hm : mg "_law_reaches" = some (.ref f)) (hb : Binds K fd ["ties", "heap", "place"] []) (T : Txt mg)  : Kn__law_reaches P w K mg base fu :=
  knows_fn F hm hb sc__law_reaches (fun _ => rfl) (fun cdv A outer s0_ H E hr a => by
    obtain ⟨ties, heap, place, _⟩ := a
    exact BX.conv ((b_par3OO 3 4 5 rfl sc__law_reaches.nd ((e_disp1T ky_ints hr (fun M => (x_var (d := (dT dI)) (a := heap) 1)) (fun M => x_bool))) (fun p_found found => (EN.o (n_lh (d := (dT dI)) (h_cons (x_var (d := (dT dI)) (a := heap) 1) h_nil)))) (fun p_found found p_order order => x_int) (fun p_found found p_order order at_ => (b_stepF (vw := (fun s_ : Int × (List ((List Int) × Bool)) × (List (List Int)) => ([some (.dat ((dT (dP dI dI)) ties)), none, some (.dat (dI place)), some (.ptr p_found), some (.ptr p_order), some (.dat (dI s_.1)), none, none, none, none], [(p_found, odK true (dT dI) dB s_.2.1), (p_order, odL (dT dI) s_.2.2)]))) (rd := (fun r => (.dat (dB r), []))) id (s_while (vw := (fun s_ : Int × (List ((List Int) × Bool)) × (List (List Int)) => ([some (.dat ((dT (dP dI dI)) ties)), none, some (.dat (dI place)), some (.ptr p_found), some (.ptr p_order), some (.dat (dI s_.1)), none, none, none, none], [(p_found, odK true (dT dI) dB s_.2.1), (p_order, odL (dT dI) s_.2.2)]))) (rd := (fun r => (.dat (dB r), []))) (n := fu) (s0 := (at_, found, order)) (bs := [true, false, true, true, true, true, false, false, false, false]) PassesOwn.never (fun s1 => (t_cmp op_lt o_lt (x_var (d := dI) (a := s1.1) 5) (x_len (ES.q (d := (dT dI)) (xs := s1.2.2) (s_var (s := .ptr p_order) 4 rfl) (mem_at (j := 1) rfl)) T.b_len))) (fun s1 => (b_step (s_set 6 sc__law_reaches.nd (x_ix (ES.q (d := (dT dI)) (xs := s1.2.2) (s_var (s := .ptr p_order) 4 rfl) (mem_at (j := 1) rfl)) (x_var (d := dI) (a := s1.1) 5))) (fun here => (b_step (s_set 5 sc__law_reaches.nd (x_op op_add o_add (x_var (d := dI) (a := s1.1) 5) x_int)) (fun at_1 => (b_ifret (rd := (fun r => (.dat (dB r), []))) Fl.ex (t_cmp op_gt o_gt (x_ix (EX.qt (x_var (d := (dT dI)) (a := here) 6)) (x_var (d := dI) (a := place) 2)) x_int) (b_retr (L1 := []) x_bool) (b_step (vw := (fun s_ : (List ((List Int) × Bool)) × (List (List Int)) => ([some (.dat ((dT (dP dI dI)) ties)), none, some (.dat (dI place)), some (.ptr p_found), some (.ptr p_order), some (.dat (dI at_1)), some (.dat ((dT dI) here)), none, none, none], [(p_found, odK true (dT dI) dB s_.1), (p_order, odL (dT dI) s_.2)]))) (s_fold (vw := (fun s_ : (List ((List Int) × Bool)) × (List (List Int)) => ([some (.dat ((dT (dP dI dI)) ties)), none, some (.dat (dI place)), some (.ptr p_found), some (.ptr p_order), some (.dat (dI at_1)), some (.dat ((dT dI) here)), none, none, none], [(p_found, odK true (dT dI) dB s_.1), (p_order, odL (dT dI) s_.2)]))) (s0 := (s1.2.1, s1.2.2)) (bs := [true, false, true, true, true, true, true, false, false, false]) PassesOwn.never rfl (i_lst (EN.x (n_cat (EX.l (EN.x (n_list (EX.qt (x_var (d := (dT (dP dI dI))) (a := ties) 0)) T.b_list))) (EX.l (EN.x (LCA.n (lp_no (own := [("a", 7), ("b", 8)]) (d := (dP dI dI)) (i_tup (x_var (d := (dT (dP dI dI))) (a := ties) 0)) (fun _ => trivial) (fun _ _ _ _ _ x1 => (y_tup (xs := [dI x1.1, dI x1.2]) rfl (ys_cons (y_name (s := .dat (dI x1.1)) 7 sc__law_reaches.nd) (ys_cons (y_name (s := .dat (dI x1.2)) 8 sc__law_reaches.nd) ys_nil)))) (fun _ _ _ _ _ x1 M => (x_pair (x_var (d := dI) (a := x1.2) 8) (x_var (d := dI) (a := x1.1) 7)))) sc__law_reaches.nd (blkOk_by (own := [("a", 7), ("b", 8)]) (N := ["ties", "heap", "place", "found", "order", "at", "here", "a", "b", "after"]) (sc := defScope s__law_reaches) (by decide +kernel)))))))) (fun s2 x => (g_tup (xs := [dI x.1, dI x.2]) rfl (gs_cons (g_name 7 sc__law_reaches.nd) (gs_cons (g_name 8 sc__law_reaches.nd) gs_nil)))) (fun s2 x => (b_one (s_if (t_cmp op_gt o_gt (x_ix (EX.qt (x_var (d := (dT dI)) (a := here) 6)) (x_var (d := dI) (a := x.1) 7)) x_int) (b_setO 9 sc__law_reaches.nd (EN.o (n_list (EX.qt (x_var (d := (dT dI)) (a := here) 6)) T.b_list)) (fun p_after after => (b_step (s_setI2 (d := dI) (d' := dI) (xs := after) (ys := fun z => z) 2 2 rfl rfl (fun _ => rfl) (s_var (s := .ptr p_after) 9 rfl) (x_var (d := dI) (a := x.1) 7) (fun z => s_var (s := .ptr p_after) 9 rfl) (fun z => (x_var (d := dI) (a := x.2) 8)) (x_op op_sub o_sub (x_ix (EX.qt (x_var (d := (dT dI)) (a := here) 6)) (x_var (d := dI) (a := x.1) 7)) x_int) (x_op op_add o_add (x_ix (EX.qt (x_var (d := (dT dI)) (a := here) 6)) (x_var (d := dI) (a := x.2) 8)) x_int)) (fun q => (b_one (s_if (t_dnotIn 0 (.t ky_ints) hr rfl (x_tuple (ES.q (d := dI) (xs := q.2) (s_var (s := .ptr p_after) 9 rfl) (mem_at (j := 2) rfl)) T.b_tuple) (s_var (s := .ptr p_found) 3 rfl)) (b_step (s_dput (dv := dB) (kvs := s2.1) 0 (.t ky_ints) hr rfl (s_var (s := .ptr p_found) 3 rfl) (x_tuple (ES.q (d := dI) (xs := q.2) (s_var (s := .ptr p_after) 9 rfl) (mem_at (j := 2) rfl)) T.b_tuple) x_bool) (fun found1 => (b_step (s_append (d := (dT dI)) (xs := s2.2) 1 rfl (s_var (s := .ptr p_order) 4 rfl) (x_tuple (ES.q (d := dI) (xs := q.2) (s_var (s := .ptr p_after) 9 rfl) (mem_at (j := 2) rfl)) T.b_tuple)) (fun order1 => (b_end (b := (found1, order1)) [true, false, true, true, true, true, true, false, false, false] rfl))))) (b_end (b := (s2.1, s2.2)) [true, false, true, true, true, true, true, false, false, false] rfl))))))) (b_end (b := (s2.1, s2.2)) [true, false, true, true, true, true, true, false, false, false] rfl)))) (fun _ => trivial) rfl) (fun s3 => (b_end (b := (Fl.nx (at_1, s3.1, s3.2))) [true, false, true, true, true, true, false, false, false, false] rfl))))))))) rfl) (fun s4 => (b_retr (L1 := []) x_bool)))))) (by kernel_rfl))
noncomputable def m_law (fu : Nat) (script : List Int) : Option Bool :=
  (m__law_state script).bind fun w1 => ((rngO 0 3).bind fun u22 => forO (fun (s1 : DS) (turn : Int) => (((m__law_draw 5 s1).bind fun u1 => some (1 + u1.1, u1.2)).bind fun n => ((m__law_draw 2 n.2).bind fun u2 => some (decide (u2.1 = 0), u2.2)).bind fun tree => (m__law_web n.1 (if tree.1 then 0 else 3) tree.2).bind fun ties => (repO [0] n.1).bind fun heap => (((m__law_draw 10 ties.2).bind fun u3 => (rngO 0 u3.1).map fun u4 => (u4, u3.2)).bind fun u7 => foldO (fun (s2 : (List Int) × DS) (k : Int) => (m__law_draw n.1 s2.2).bind fun spot => (((atO s2.1 spot.1).bind fun u5 => some (u5 + 1)).bind fun u6 => setO s2.1 spot.1 u6).bind fun heap1 => some ((heap1, spot.2))) u7.1 (heap, u7.2)).bind fun s3 => (m__law_draw n.1 s3.2).bind fun place => ((tupO s3.1).bind fun u8 => m__law_reaches fu ties.1 u8 place.1).bind fun due => ((tupO s3.1).bind fun u9 => m_reaches fu n.1 ties.1 u9 place.1).bind fun said => (if (!true) then some true else if (!decide (said = due)) then some true else if tree.1 then ((tupO s3.1).bind fun u10 => m_tree_reaches fu n.1 ties.1 u10 place.1).bind fun u11 => some (!decide (u11 = due)) else some false).bind fun u21 => if u21 then some (Fl.ex false) else if (decide ((ties.1.length : Int) > 0)) then ((m__law_draw (ties.1.length : Int) place.2).bind fun u12 => (atO ties.1 u12.1).map fun z => (z, u12.2)).bind fun q => (tupO s3.1).bind fun some_ => (((atO some_ q.1.1).bind fun u13 => some (u13 + 2)).bind fun u14 => setO some_ q.1.1 u14).bind fun some_1 => (tupO s3.1).bind fun after => (((atO after q.1.2).bind fun u15 => some (u15 + 1)).bind fun u16 => setO after q.1.2 u16).bind fun after1 => (((tupO some_1).bind fun u17 => m_carried u17 q.1.1 q.1.2).bind fun u18 => (tupO after1).bind fun u19 => some (!decide (u18 = u19))).bind fun u20 => if u20 then some ((Fl.ex false)) else some ((Fl.nx q.2)) else some ((Fl.nx place.2)) : Option (Fl (DS) (Bool)))) u22 w1).bind (Fx.on id fun s4 => ((m__law_draw 19 s4).bind fun u24 => some (2 + u24.1, u24.2)).bind fun m => (m__law_web m.1 0 m.2).bind fun great => ((rngL 0 m.1).bind fun u28 => mapW (fun (k1 : Int) (w2 : DS) => (((m__law_draw 3 w2).bind fun u25 => (atO [2, 5, 40] u25.1).map fun z => (z, u25.2)).bind fun u26 => some ((u26.1, ()), u26.2)).bind fun u27 => m__law_draw u27.1.1 u27.2) u28 great.2).bind fun heap2 => (m__law_draw m.1 heap2.2).bind fun root => let above : List (Int × Int) := [(root.1, -1)]; let order : List Int := [root.1]; let at_ : Int := 0; (loopO (fun (s5 : Int × (List (Int × Int)) × (List Int)) => some (decide (s5.1 < (s5.2.2.length : Int)))) (fun (s5 : Int × (List (Int × Int)) × (List Int)) => (((atO s5.2.2 s5.1).bind fun u29 => m__law_ward great.1 u29).bind fun u31 => foldO (fun (s6 : (List (Int × Int)) × (List Int)) (one : Int) => if (!(dget s6.1 one).isSome) then ((atO s6.2 s5.1).bind fun u30 => dputO s6.1 one u30).bind fun above1 => (appO s6.2 one).bind fun order1 => some ((above1, order1)) else some ((s6.1, s6.2))) u31 (s5.2.1, s5.2.2)).bind fun s7 => some (let at_1 : Int := s5.1 + 1; (at_1, s7.1, s7.2))) fu (at_, above, order)).bind fun s8 => (tupO heap2.1).bind fun left => (foldO (fun (s9 : (List (Int × Int)) × (List Int)) (one1 : Int) => ((((dget s9.1 one1).bind fun u32 => atO s9.2 u32).bind fun u34 => ((atO s9.2 one1).map fun u33 => u33 / 2).bind fun u35 => some (u34 + u35)).bind fun u36 => (dget s9.1 one1).bind fun u37 => setO s9.2 u37 u36).bind fun left1 => some ((s9.1, left1))) ((s8.2.2.drop 1).reverse) (s8.2.1, left)).bind fun s10 => (m_tree_reaches fu m.1 great.1 heap2.1 root.1).bind fun said1 => if true then (((atO s10.2 root.1).bind fun u38 => some (decide (u38 > 0))).bind fun u39 => some (decide (said1 = u39))).bind fun u43 => if u43 then ((m_reaches fu 2 [(0, 1)] [1, 0] 1).bind fun u40 => some (decide (u40 = false))).bind fun u42 => if u42 then (m_tree_reaches fu 3 [(0, 1), (1, 2)] [4, 0, 0] 2).bind fun u41 => some (decide (u41 = true)) else some false else some false else some false)
abbrev Kn_law (P : Program) (w : World) (K : PySem.W.Frag) (mg : Str → Option Value) (base : Heap) (fu : Nat) : Prop := Knows P w K mg base "law" 4 ["script"] (spP K (encR enc0) dB (fun a : (List Int) × Unit => m_law fu a.1))
theorem k_law (fu : Nat) {P : Program} {w : World} {K : PySem.W.Frag} {mg : Str → Option Value} {base : Heap} {f : Addr} {fd : FuncData} (F : Fun K "law" "law" s_law f fd) (T : Txt mg) (K__law_draw : Kn__law_draw P w K mg base) (K__law_reaches : Kn__law_reaches P w K mg base fu) (K__law_state : Kn__law_state P w K mg base) (K__law_ward : Kn__law_ward P w K mg base) (K__law_web : Kn__law_web P w K mg base) (K_carried : Kn_carried P w K mg base) (K_reaches : Kn_reaches P w K mg base fu) (K_tree_reaches : Kn_tree_reaches P w K mg base fu) : FnOk P w K mg base CX0 4 f fd ["script"] (spP K (encR enc0) dB (fun a : List Int × Unit => m_law fu a.1)) :=
  fnok_fn F sc_law (fun _ => rfl) (fun cdv A outer s0_ H E hr a => by
    obtain ⟨script, _⟩ := a
    exact BX.conv ((b_state 1 sc_law.nd K__law_state hr (s_var (s := .scr script) 0 rfl) (fun s c w1 => (b_stepF (vw := (fun s_ : DS => ([some (.scr script), some (.ptr s), none, none, none, none, none, none, none, none, none, none, none, none, none, none, none, none, none, none, none, none, none, none], LD s c s_ ++ []))) (rd := (fun r => (.dat (dB r), []))) id (s_for (vw := (fun s_ : DS => ([some (.scr script), some (.ptr s), none, none, none, none, none, none, none, none, none, none, none, none, none, none, none, none, none, none, none, none, none, none], LD s c s_ ++ []))) (rd := (fun r => (.dat (dB r), []))) (s0 := w1) (bs := [true, true, false, false, false, false, false, false, false, false, false, false, false, false, false, false, false, false, false, false, false, false, false, false]) PassesOwn.never rfl (i_range x_int T.b_range) (fun s1 turn => (g_name 2 sc_law.nd)) (fun s1 turn => (b_step (s_setM (Lf := fun w : DS => LD s c w ++ []) (w := s1) 3 sc_law.nd (m_op op_add o_add (EX.m (Lf := fun w : DS => LD s c w ++ []) (w := s1) x_int) (fun a_u w_u => (m_call (Lf := LD s c) (Lr := ([])) (fun _ _ => rfl) (K__law_draw.at_ (s, c)) hr (AX.m (Lf := fun w : DS => LD s c w ++ []) (w := w_u) (a_S (s_var (s := .ptr s) 1 rfl) (a_C x_int a_0))))))) (fun n => (b_step (s_setM (Lf := fun w : DS => LD s c w ++ []) (w := n.2) 4 sc_law.nd (m_cmp op_eq o_eqI (m_call (Lf := LD s c) (Lr := ([])) (fun _ _ => rfl) (K__law_draw.at_ (s, c)) hr (AX.m (Lf := fun w : DS => LD s c w ++ []) (w := n.2) (a_S (s_var (s := .ptr s) 1 rfl) (a_C x_int a_0)))) (fun a_u2 w_u2 => (EX.m (Lf := fun w : DS => LD s c w ++ []) (w := w_u2) x_int)))) (fun tree => (b_step (s_setM (Lf := fun w : DS => LD s c w ++ []) (w := tree.2) 5 sc_law.nd (m_call (Lf := LD s c) (Lr := ([])) (fun _ _ => rfl) (K__law_web.at_ (s, c)) hr (AX.m (Lf := fun w : DS => LD s c w ++ []) (w := tree.2) (a_S (s_var (s := .ptr s) 1 rfl) (a_C (x_var (d := dI) (a := n.1) 3) (a_C (x_ifP (t_val (x_var (d := dB) (a := tree.1) 4)) x_int x_int) a_0)))))) (fun ties => (b_setO 6 sc_law.nd (EN.o (n_rep (EN.x (n_lh (d := dI) (h_cons x_int h_nil))) (x_var (d := dI) (a := n.1) 3))) (fun p_heap heap => (b_step (vw := (fun s_ : (List Int) × DS => ([some (.scr script), some (.ptr s), none, some (.dat (dI n.1)), some (.dat (dB tree.1)), some (.dat ((dT (dP dI dI)) ties.1)), some (.ptr p_heap), none, none, none, none, none, none, none, none, none, none, none, none, none, none, none, none, none], LD s c s_.2 ++ [(p_heap, odL dI s_.1)]))) (s_foldM (vw := (fun s_ : (List Int) × DS => ([some (.scr script), some (.ptr s), none, some (.dat (dI n.1)), some (.dat (dB tree.1)), some (.dat ((dT (dP dI dI)) ties.1)), some (.ptr p_heap), none, none, none, none, none, none, none, none, none, none, none, none, none, none, none, none, none], LD s c s_.2 ++ [(p_heap, odL dI s_.1)]))) (s0 := fun w => (heap, w)) (bs := [true, true, false, true, true, true, true, false, false, false, false, false, false, false, false, false, false, false, false, false, false, false, false, false]) PassesOwn.never rfl (im_range (Lf := fun w : DS => LD s c w ++ [(p_heap, odL dI heap)]) (w := ties.2) (m_call (Lf := LD s c) (Lr := ([(p_heap, odL dI heap)])) (fun _ _ => rfl) (K__law_draw.at_ (s, c)) hr (AX.m (Lf := fun w : DS => LD s c w ++ [(p_heap, odL dI heap)]) (w := ties.2) (a_S (s_var (s := .ptr s) 1 rfl) (a_C x_int a_0)))) T.b_range) (fun s2 k => (g_name 7 sc_law.nd)) (fun s2 k => (b_step (s_setM (Lf := fun w : DS => LD s c w ++ [(p_heap, odL dI s2.1)]) (w := s2.2) 8 sc_law.nd (m_call (Lf := LD s c) (Lr := ([(p_heap, odL dI s2.1)])) (fun _ _ => rfl) (K__law_draw.at_ (s, c)) hr (AX.m (Lf := fun w : DS => LD s c w ++ [(p_heap, odL dI s2.1)]) (w := s2.2) (a_S (s_var (s := .ptr s) 1 rfl) (a_C (x_var (d := dI) (a := n.1) 3) a_0))))) (fun spot => (b_step (s_setI (d := dI) (xs := s2.1) 2 rfl (s_var (s := .ptr p_heap) 6 rfl) (x_var (d := dI) (a := spot.1) 8) (x_op op_add o_add (x_ix (ES.q (d := dI) (xs := s2.1) (s_var (s := .ptr p_heap) 6 rfl) (mem_at (j := 2) rfl)) (x_var (d := dI) (a := spot.1) 8)) x_int)) (fun heap1 => (b_end (b := (heap1, spot.2)) [true, true, false, true, true, true, true, false, false, false, false, false, false, false, false, false, false, false, false, false, false, false, false, false] rfl)))))) (fun _ => trivial) (fun _ => rfl)) (fun s3 => (b_step (s_setM (Lf := fun w : DS => LD s c w ++ [(p_heap, odL dI s3.1)]) (w := s3.2) 9 sc_law.nd (m_call (Lf := LD s c) (Lr := ([(p_heap, odL dI s3.1)])) (fun _ _ => rfl) (K__law_draw.at_ (s, c)) hr (AX.m (Lf := fun w : DS => LD s c w ++ [(p_heap, odL dI s3.1)]) (w := s3.2) (a_S (s_var (s := .ptr s) 1 rfl) (a_C (x_var (d := dI) (a := n.1) 3) a_0))))) (fun place => (b_step (s_set 10 sc_law.nd (EX.conv (x_call K__law_reaches hr (a_C (x_var (d := (dT (dP dI dI))) (a := ties.1) 5) (a_C (x_tuple (ES.q (d := dI) (xs := s3.1) (s_var (s := .ptr p_heap) 6 rfl) (mem_at (j := 2) rfl)) T.b_tuple) (a_C (x_var (d := dI) (a := place.1) 9) a_0)))) (ca3 (some (ties.1)) (tupO s3.1) (some (place.1)) _))) (fun due => (b_step (s_set 11 sc_law.nd (EX.conv (x_call K_reaches hr (a_C (x_var (d := dI) (a := n.1) 3) (a_C (x_var (d := (dT (dP dI dI))) (a := ties.1) 5) (a_C (x_tuple (ES.q (d := dI) (xs := s3.1) (s_var (s := .ptr p_heap) 6 rfl) (mem_at (j := 2) rfl)) T.b_tuple) (a_C (x_var (d := dI) (a := place.1) 9) a_0))))) (ca4 (some (n.1)) (some (ties.1)) (tupO s3.1) (some (place.1)) _))) (fun said => (b_ifret (rd := (fun r => (.dat (dB r), []))) Fl.ex (WX.t (w_or (t_not (t_val (x_isBool (x_var (d := dB) (a := said) 11) T.b_isinstance T.b_bool))) (w_or (t_cmp op_ne o_neB (x_var (d := dB) (a := said) 11) (x_var (d := dB) (a := due) 10)) (w_or1 (WX.t (w_and (t_val (x_var (d := dB) (a := tree.1) 4)) (w_and1 (t_cmp op_ne o_neB (EX.conv (x_call K_tree_reaches hr (a_C (x_var (d := dI) (a := n.1) 3) (a_C (x_var (d := (dT (dP dI dI))) (a := ties.1) 5) (a_C (x_tuple (ES.q (d := dI) (xs := s3.1) (s_var (s := .ptr p_heap) 6 rfl) (mem_at (j := 2) rfl)) T.b_tuple) (a_C (x_var (d := dI) (a := place.1) 9) a_0))))) (ca4 (some (n.1)) (some (ties.1)) (tupO s3.1) (some (place.1)) _)) (x_var (d := dB) (a := due) 10))))))))) (b_retr (L1 := []) x_bool) (b_one (s_if (t_cmp op_gt o_gt (x_len (EX.qt (x_var (d := (dT (dP dI dI))) (a := ties.1) 5)) T.b_len) x_int) (b_step (s_asgM (Lf := fun w : DS => LD s c w ++ [(p_heap, odL dI s3.1)]) (w := place.2) (m_ix (x_var (d := (dT (dP dI dI))) (a := ties.1) 5) (fun _ => (m_call (Lf := LD s c) (Lr := ([(p_heap, odL dI s3.1)])) (fun _ _ => rfl) (K__law_draw.at_ (s, c)) hr (AX.m (Lf := fun w : DS => LD s c w ++ [(p_heap, odL dI s3.1)]) (w := place.2) (a_S (s_var (s := .ptr s) 1 rfl) (a_C (x_len (EX.qt (x_var (d := (dT (dP dI dI))) (a := ties.1) 5)) T.b_len) a_0)))))) (fun qa _ => (g_tup (xs := [dI qa.1, dI qa.2]) rfl (gs_cons (g_name 12 sc_law.nd) (gs_cons (g_name 13 sc_law.nd) gs_nil))))) (fun q => (b_setO 14 sc_law.nd (EN.o (n_list (ES.q (d := dI) (xs := s3.1) (s_var (s := .ptr p_heap) 6 rfl) (mem_at (j := 2) rfl)) T.b_list)) (fun p_some_ some_ => (b_step (s_setI (d := dI) (xs := some_) 3 rfl (s_var (s := .ptr p_some_) 14 rfl) (x_var (d := dI) (a := q.1.1) 12) (x_op op_add o_add (x_ix (ES.q (d := dI) (xs := some_) (s_var (s := .ptr p_some_) 14 rfl) (mem_at (j := 3) rfl)) (x_var (d := dI) (a := q.1.1) 12)) x_int)) (fun some_1 => (b_setO 15 sc_law.nd (EN.o (n_list (ES.q (d := dI) (xs := s3.1) (s_var (s := .ptr p_heap) 6 rfl) (mem_at (j := 2) rfl)) T.b_list)) (fun p_after after => (b_step (s_setI (d := dI) (xs := after) 4 rfl (s_var (s := .ptr p_after) 15 rfl) (x_var (d := dI) (a := q.1.2) 13) (x_op op_add o_add (x_ix (ES.q (d := dI) (xs := after) (s_var (s := .ptr p_after) 15 rfl) (mem_at (j := 4) rfl)) (x_var (d := dI) (a := q.1.2) 13)) x_int)) (fun after1 => (b_one (s_if (t_cmp (op_neD hr.units) (o_neD (lw_tup lw_int)) (EX.conv (x_call K_carried hr (a_C (x_tuple (ES.q (d := dI) (xs := some_1) (s_var (s := .ptr p_some_) 14 rfl) (mem_at (j := 3) rfl)) T.b_tuple) (a_C (x_var (d := dI) (a := q.1.1) 12) (a_C (x_var (d := dI) (a := q.1.2) 13) a_0)))) (ca3 (tupO some_1) (some (q.1.1)) (some (q.1.2)) _)) (x_tuple (ES.q (d := dI) (xs := after1) (s_var (s := .ptr p_after) 15 rfl) (mem_at (j := 4) rfl)) T.b_tuple)) (b_ret (L1 := []) Fl.ex x_bool (fun _ => rfl)) (b_end (b := (Fl.nx q.2)) [true, true, false, false, false, false, false, false, false, false, false, false, false, false, false, false, false, false, false, false, false, false, false, false] rfl))))))))))))) (b_end (b := (Fl.nx place.2)) [true, true, false, false, false, false, false, false, false, false, false, false, false, false, false, false, false, false, false, false, false, false, false, false] rfl))))))))))))))))))))) (fun _ => trivial) rfl) (fun s4 => (b_step (s_setM (Lf := fun w : DS => LD s c w ++ []) (w := s4) 16 sc_law.nd (m_op op_add o_add (EX.m (Lf := fun w : DS => LD s c w ++ []) (w := s4) x_int) (fun a_u23 w_u23 => (m_call (Lf := LD s c) (Lr := ([])) (fun _ _ => rfl) (K__law_draw.at_ (s, c)) hr (AX.m (Lf := fun w : DS => LD s c w ++ []) (w := w_u23) (a_S (s_var (s := .ptr s) 1 rfl) (a_C x_int a_0))))))) (fun m => (b_step (s_setM (Lf := fun w : DS => LD s c w ++ []) (w := m.2) 17 sc_law.nd (m_call (Lf := LD s c) (Lr := ([])) (fun _ _ => rfl) (K__law_web.at_ (s, c)) hr (AX.m (Lf := fun w : DS => LD s c w ++ []) (w := m.2) (a_S (s_var (s := .ptr s) 1 rfl) (a_C (x_var (d := dI) (a := m.1) 16) (a_C x_int a_0)))))) (fun great => (b_step (s_setM (Lf := fun w : DS => LD s c w ++ []) (w := great.2) 6 sc_law.nd (m_tuple (LCA.m (lm_no (own := [("k", 7)]) (d := dI) (Lf := fun w : DS => LD s c w ++ []) (w0 := great.2) (i_rangeL (x_var (d := dI) (a := m.1) 16) T.b_range) (fun _ _ => trivial) (fun _ _ _ _ _ k1 => (y_name (s := .dat (dI k1)) 7 sc_law.nd)) (fun _ _ _ _ _ k1 w2 M => (m_call (Lf := LD s c) (Lr := ([] ++ M)) (fun _ _ => rfl) (K__law_draw.at_ (s, c)) hr (am_S (s_var (s := .ptr s) 1 rfl) (am_C (m_ixL (EN.x (n_lh (d := dI) (h_cons x_int (h_cons x_int (h_cons x_int h_nil))))) (fun _ => (m_call (Lf := LD s c) (Lr := ([] ++ M)) (fun _ _ => rfl) (K__law_draw.at_ (s, c)) hr (AX.m (Lf := fun w : DS => LD s c w ++ [] ++ M) (w := w2) (a_S (s_var (s := .ptr s) 1 rfl) (a_C x_int a_0)))))) (fun a_u26 w_u26 => am_0)))))) sc_law.nd (blkOk_by (own := [("k", 7)]) (N := ["script", "state", "turn", "n", "tree", "ties", "heap", "k", "spot", "place", "due", "said", "a", "b", "some", "after", "m", "great", "root", "above", "order", "at", "one", "left"]) (sc := defScope s_law) (by decide +kernel))) T.b_tuple)) (fun heap2 => (b_step (s_setM (Lf := fun w : DS => LD s c w ++ []) (w := heap2.2) 18 sc_law.nd (m_call (Lf := LD s c) (Lr := ([])) (fun _ _ => rfl) (K__law_draw.at_ (s, c)) hr (AX.m (Lf := fun w : DS => LD s c w ++ []) (w := heap2.2) (a_S (s_var (s := .ptr s) 1 rfl) (a_C (x_var (d := dI) (a := m.1) 16) a_0))))) (fun root => (b_par3OO 19 20 21 rfl sc_law.nd ((e_disp1K (fun M => (x_var (d := dI) (a := root.1) 18)) (fun M => (x_neg x_int)))) (fun p_above above => (EN.o (n_lh (d := dI) (h_cons (x_var (d := dI) (a := root.1) 18) h_nil)))) (fun p_above above p_order order => x_int) (fun p_above above p_order order at_ => (b_step (vw := (fun s_ : Int × (List (Int × Int)) × (List Int) => ([some (.scr script), some (.ptr s), none, none, none, none, some (.dat ((dT dI) heap2.1)), none, none, none, none, none, none, none, none, none, some (.dat (dI m.1)), some (.dat ((dT (dP dI dI)) great.1)), some (.dat (dI root.1)), some (.ptr p_above), some (.ptr p_order), some (.dat (dI s_.1)), none, none], LD s c root.2 ++ [(p_above, odK false dI dI s_.2.1), (p_order, odL dI s_.2.2)]))) (s_loop (vw := (fun s_ : Int × (List (Int × Int)) × (List Int) => ([some (.scr script), some (.ptr s), none, none, none, none, some (.dat ((dT dI) heap2.1)), none, none, none, none, none, none, none, none, none, some (.dat (dI m.1)), some (.dat ((dT (dP dI dI)) great.1)), some (.dat (dI root.1)), some (.ptr p_above), some (.ptr p_order), some (.dat (dI s_.1)), none, none], LD s c root.2 ++ [(p_above, odK false dI dI s_.2.1), (p_order, odL dI s_.2.2)]))) (n := fu) (s0 := (at_, above, order)) (bs := [true, true, false, false, false, false, true, false, false, false, false, false, false, false, false, false, true, true, true, true, true, true, false, false]) PassesOwn.never (fun s5 => (t_cmp op_lt o_lt (x_var (d := dI) (a := s5.1) 21) (x_len (ES.q (d := dI) (xs := s5.2.2) (s_var (s := .ptr p_order) 20 rfl) (mem_at (j := 3) rfl)) T.b_len))) (fun s5 => (b_step (vw := (fun s_ : (List (Int × Int)) × (List Int) => ([some (.scr script), some (.ptr s), none, none, none, none, some (.dat ((dT dI) heap2.1)), none, none, none, none, none, none, none, none, none, some (.dat (dI m.1)), some (.dat ((dT (dP dI dI)) great.1)), some (.dat (dI root.1)), some (.ptr p_above), some (.ptr p_order), some (.dat (dI s5.1)), none, none], LD s c root.2 ++ [(p_above, odK false dI dI s_.1), (p_order, odL dI s_.2)]))) (s_fold (vw := (fun s_ : (List (Int × Int)) × (List Int) => ([some (.scr script), some (.ptr s), none, none, none, none, some (.dat ((dT dI) heap2.1)), none, none, none, none, none, none, none, none, none, some (.dat (dI m.1)), some (.dat ((dT (dP dI dI)) great.1)), some (.dat (dI root.1)), some (.ptr p_above), some (.ptr p_order), some (.dat (dI s5.1)), none, none], LD s c root.2 ++ [(p_above, odK false dI dI s_.1), (p_order, odL dI s_.2)]))) (s0 := (s5.2.1, s5.2.2)) (bs := [true, true, false, false, false, false, true, false, false, false, false, false, false, false, false, false, true, true, true, true, true, true, false, false]) PassesOwn.never rfl (i_lst (EX.conv (x_call K__law_ward hr (a_C (x_var (d := (dT (dP dI dI))) (a := great.1) 17) (a_C (x_ix (ES.q (d := dI) (xs := s5.2.2) (s_var (s := .ptr p_order) 20 rfl) (mem_at (j := 3) rfl)) (x_var (d := dI) (a := s5.1) 21)) a_0))) (ca2 (some (great.1)) (atO s5.2.2 s5.1) _))) (fun s6 one => (g_name 22 sc_law.nd)) (fun s6 one => (b_one (s_if (t_dnotIn 2 (.k ky_int) hr rfl (x_var (d := dI) (a := one) 22) (s_var (s := .ptr p_above) 19 rfl)) (b_step (s_dput (dv := dI) (kvs := s6.1) 2 (.k ky_int) hr rfl (s_var (s := .ptr p_above) 19 rfl) (x_var (d := dI) (a := one) 22) (x_ix (ES.q (d := dI) (xs := s6.2) (s_var (s := .ptr p_order) 20 rfl) (mem_at (j := 3) rfl)) (x_var (d := dI) (a := s5.1) 21))) (fun above1 => (b_step (s_append (d := dI) (xs := s6.2) 3 rfl (s_var (s := .ptr p_order) 20 rfl) (x_var (d := dI) (a := one) 22)) (fun order1 => (b_end (b := (above1, order1)) [true, true, false, false, false, false, true, false, false, false, false, false, false, false, false, false, true, true, true, true, true, true, false, false] rfl))))) (b_end (b := (s6.1, s6.2)) [true, true, false, false, false, false, true, false, false, false, false, false, false, false, false, false, true, true, true, true, true, true, false, false] rfl)))) (fun _ => trivial) rfl) (fun s7 => (b_step (s_set 21 sc_law.nd (x_op op_add o_add (x_var (d := dI) (a := s5.1) 21) x_int)) (fun at_1 => (b_end (b := (at_1, s7.1, s7.2)) [true, true, false, false, false, false, true, false, false, false, false, false, false, false, false, false, true, true, true, true, true, true, false, false] rfl)))))) rfl) (fun s8 => (b_setO 23 sc_law.nd (EN.o (n_list (EX.qt (x_var (d := (dT dI)) (a := heap2.1) 6)) T.b_list)) (fun p_left left => (b_step (vw := (fun s_ : (List (Int × Int)) × (List Int) => ([some (.scr script), some (.ptr s), none, none, none, none, some (.dat ((dT dI) heap2.1)), none, none, none, none, none, none, none, none, none, some (.dat (dI m.1)), some (.dat ((dT (dP dI dI)) great.1)), some (.dat (dI root.1)), some (.ptr p_above), some (.ptr p_order), none, none, some (.ptr p_left)], LD s c root.2 ++ [(p_above, odK false dI dI s_.1), (p_order, odL dI s8.2.2), (p_left, odL dI s_.2)]))) (s_fold (vw := (fun s_ : (List (Int × Int)) × (List Int) => ([some (.scr script), some (.ptr s), none, none, none, none, some (.dat ((dT dI) heap2.1)), none, none, none, none, none, none, none, none, none, some (.dat (dI m.1)), some (.dat ((dT (dP dI dI)) great.1)), some (.dat (dI root.1)), some (.ptr p_above), some (.ptr p_order), none, none, some (.ptr p_left)], LD s c root.2 ++ [(p_above, odK false dI dI s_.1), (p_order, odL dI s8.2.2), (p_left, odL dI s_.2)]))) (s0 := (s8.2.1, left)) (bs := [true, true, false, false, false, false, true, false, false, false, false, false, false, false, false, false, true, true, true, true, true, false, false, true]) PassesOwn.never rfl (i_lst (EN.x (n_revs0 (ES.l (d := dI) (xs := s8.2.2) (s_var (s := .ptr p_order) 20 rfl) (mem_at (j := 3) rfl))))) (fun s9 one1 => (g_name 22 sc_law.nd)) (fun s9 one1 => (b_step (s_setI (d := dI) (xs := s9.2) 4 rfl (s_var (s := .ptr p_left) 23 rfl) (x_dget 2 (.k ky_int) hr rfl (s_var (s := .ptr p_above) 19 rfl) (x_var (d := dI) (a := one1) 22)) (x_op op_add o_add (x_ix (ES.q (d := dI) (xs := s9.2) (s_var (s := .ptr p_left) 23 rfl) (mem_at (j := 4) rfl)) (x_dget 2 (.k ky_int) hr rfl (s_var (s := .ptr p_above) 19 rfl) (x_var (d := dI) (a := one1) 22))) (x_divL (x_ix (ES.q (d := dI) (xs := s9.2) (s_var (s := .ptr p_left) 23 rfl) (mem_at (j := 4) rfl)) (x_var (d := dI) (a := one1) 22))))) (fun left1 => (b_end (b := (s9.1, left1)) [true, true, false, false, false, false, true, false, false, false, false, false, false, false, false, false, true, true, true, true, true, false, false, true] rfl)))) (fun _ => trivial) rfl) (fun s10 => (b_step (s_set 11 sc_law.nd (x_call K_tree_reaches hr (a_C (x_var (d := dI) (a := m.1) 16) (a_C (x_var (d := (dT (dP dI dI))) (a := great.1) 17) (a_C (x_var (d := (dT dI)) (a := heap2.1) 6) (a_C (x_var (d := dI) (a := root.1) 18) a_0)))))) (fun said1 => (b_retr (L1 := []) (x_and (x_isBool (x_var (d := dB) (a := said1) 11) T.b_isinstance T.b_bool) (x_and (x_cmp op_eq o_eqB (x_var (d := dB) (a := said1) 11) (x_cmp op_gt o_gt (x_ix (ES.q (d := dI) (xs := s10.2) (s_var (s := .ptr p_left) 23 rfl) (mem_at (j := 4) rfl)) (x_var (d := dI) (a := root.1) 18)) x_int)) (x_and (x_cmp op_isBl o_isB (x_call K_reaches hr (a_C x_int (a_C (x_th (d := (dP dI dI)) (h_cons (x_pair x_int x_int) h_nil)) (a_C (x_th (d := dI) (h_cons x_int (h_cons x_int h_nil))) (a_C x_int a_0))))) x_bool) (x_one (x_cmp op_isBl o_isB (x_call K_tree_reaches hr (a_C x_int (a_C (x_th (d := (dP dI dI)) (h_cons (x_pair x_int x_int) (h_cons (x_pair x_int x_int) h_nil))) (a_C (x_th (d := dI) (h_cons x_int (h_cons x_int (h_cons x_int h_nil)))) (a_C x_int a_0))))) x_bool))))))))))))))))))))))))))))) (by kernel_rfl))
end Prog
namespace Prog
open PySem L2 Mir Tr
abbrev FO := List ((List Int) × Bool) × List (List Int)
/-- what is found is well made: from g on, with n places -/
structure Good (n : Int) (ties : List (Int × Int)) (g : Int → Int) (t : Int) (h : List Int) : Prop where
  len : (h.length : Int) = n
  pos : ∀ x ∈ h, 0 ≤ x
  sum : h.sum ≤ t
  re : Re ties g (fn h)
theorem Good.mv {n : Int} {ties : List (Int × Int)} {g : Int → Int} {t : Int} {h : List Int} {a b : Int} (w : Web n ties) (G : Good n ties g t h) (e : Adj ties a b) (h2 : 2 ≤ fn h a) : Good n ties g t (mvL h a b) := by
  have ha := adj_rg w e
  have h1 : fn (mvL h a b) = Tr.mv (fn h) a b := fn_mvL ⟨ha.1, by have := G.len; omega⟩ ⟨ha.2.2.1, by have := G.len; omega⟩ ha.2.2.2.2
  refine ⟨by rw [mvL_len]; exact G.len, fun x hx => ?_, ?_, by rw [h1]; exact G.re.step e h2⟩
  · unfold mvL at hx
    have hb0 : 0 ≤ fn h b := by
      unfold fn
      rw [if_pos ha.2.2.1]
      have hl : b.toNat < h.length := by have := G.len; omega
      rw [List.getElem?_eq_getElem hl]
      exact G.pos _ (List.getElem_mem hl)
    rcases List.mem_or_eq_of_mem_set hx with hx | rfl
    · rcases List.mem_or_eq_of_mem_set hx with hx | rfl
      · exact G.pos x hx
      · omega
    · omega
  · rw [sum_mvL ⟨ha.1, by have := G.len; omega⟩ ⟨ha.2.2.1, by have := G.len; omega⟩ ha.2.2.2.2]
    have := G.sum
    omega
structure J (n : Int) (ties : List (Int × Int)) (g : Int → Int) (t : Int) (s : FO) : Prop where
  key : s.1.map (·.1) = s.2
  nd : s.2.Nodup
  good : ∀ h ∈ s.2, Good n ties g t h
section
variable {n t : Int} {ties : List (Int × Int)} {g : Int → Int} {s : FO}
theorem J.len (I : J n ties g t s) (hn : 0 ≤ n ∧ n ≤ 5) (ht : t ≤ 9) : s.2.length ≤ 100000 := by
  have := nodup_le (E := vecs 10 n.toNat) I.nd fun h hh => by
    have G := I.good h hh
    have hs := le_sum G.pos
    refine mem_vecs (by have := G.len; omega) fun x hx => ⟨G.pos x hx, ?_⟩
    have := hs.2 x hx
    have := G.sum
    omega
  rw [vecs_len] at this
  have h10 : (10 : Int).toNat = 10 := rfl
  rw [h10] at this
  have h5 : 10 ^ n.toNat ≤ 10 ^ 5 := Nat.pow_le_pow_right (by decide) (by omega)
  have : (10 : Nat) ^ 5 = 100000 := by decide
  omega
theorem add_ho (I : J n ties g t s) (hn : 0 ≤ n ∧ n ≤ 5) (ht : t ≤ 9) {after : List Int} (G : Good n ties g t after) :
    Ho (if (!(dget s.1 after).isSome) then (dputO s.1 after true).bind fun found1 => (appO s.2 after).bind fun order1 => some ((found1, order1)) else some ((s.1, s.2))) (fun s' => J n ties g t s' ∧ after ∈ s'.2 ∧ ∃ q, s'.2 = s.2 ++ q) := by
  have hl := I.len hn ht
  have hl1 : s.1.length = s.2.length := by rw [← I.key, List.length_map]
  by_cases h : after ∈ s.2
  · rw [show (dget s.1 after).isSome = true from dget_is (by rw [I.key]; exact h)]
    exact ho_some ⟨I, h, [], by simp⟩
  · rw [show (dget s.1 after).isSome = false from dget_not (by rw [I.key]; exact h)]
    have e3 : dputO s.1 after true = some (s.1 ++ [(after, true)]) := by
      unfold dputO
      rw [if_pos (by rw [line_eq]; omega), dput_new (by rw [I.key]; exact h)]
    show Ho ((dputO s.1 after true).bind _) _
    rw [e3, Option.bind_some, appO_eq (by omega), Option.bind_some]
    refine ho_some ⟨⟨by rw [List.map_append, I.key]; rfl, ?_, fun x hx => ?_⟩, List.mem_append_right _ (by simp), _, rfl⟩
    · rw [List.nodup_append]
      refine ⟨I.nd, by simp, fun a ha b hb => ?_⟩
      have : b = after := by simpa using hb
      rw [this]
      exact fun q => h (q ▸ ha)
    · rcases List.mem_append.mp hx with hx | hx
      · exact I.good x hx
      · have : x = after := by simpa using hx
        rw [this]
        exact G
end
end Prog
namespace Prog
open PySem L2 Mir Tr
section
variable {n t : Int} {ties : List (Int × Int)} {g : Int → Int} {s : FO}
theorem beside_eq (ties : List (Int × Int)) (x : Int) : m_beside ties x = some (nbr ties x) := by
  unfold m_beside nbr
  rw [filtO_eq (p := fun t : Int × Int => decide (x ∈ [t.1, t.2])) (f := fun t : Int × Int => t.1 + t.2 - x) (fun _ _ => rfl) fun _ _ _ => rfl]
  rfl
theorem fn_nonneg {h : List Int} (hp : ∀ x ∈ h, 0 ≤ x) (v : Int) : 0 ≤ fn h v := by
  unfold fn
  by_cases q : 0 ≤ v
  · rw [if_pos q]
    cases e : h[v.toNat]? with
    | none => exact Int.le_refl _
    | some x => exact hp x (List.mem_of_getElem? e)
  · rw [if_neg q]; exact Int.le_refl _
theorem carried_eq {h : List Int} {a b : Int} (hl : h.length ≤ 1000) (ha : 0 ≤ a ∧ a < h.length) (hb : 0 ≤ b ∧ b < h.length) (ne : a ≠ b) : m_carried h a b = some (mvL h a b) := by
  unfold m_carried mvL
  have e : fn (h.set a.toNat (fn h a - 2)) b = fn h b := by rw [fn_set ha.1 ha.2, if_neg (by omega)]
  rw [tupO_eq (by omega), Option.bind_some, at_fn ha.1 ha.2, Option.bind_some, Option.bind_some, setO_eq ha.1 ha.2, Option.bind_some, at_fn hb.1 (by rw [List.length_set]; exact hb.2), Option.bind_some, Option.bind_some, setO_eq hb.1 (by rw [List.length_set]; exact hb.2), Option.bind_some, tupO_eq (by rw [List.length_set, List.length_set]; omega), e]
/-- what a step adds -/
def Ext (n : Int) (ties : List (Int × Int)) (g : Int → Int) (t : Int) (s s' : FO) : Prop := J n ties g t s' ∧ ∃ q, s'.2 = s.2 ++ q
theorem Ext.rfl' (I : J n ties g t s) : Ext n ties g t s s := ⟨I, [], by simp⟩
theorem Ext.trans {s' s'' : FO} (a : Ext n ties g t s s') (b : Ext n ties g t s' s'') : Ext n ties g t s s'' := by
  obtain ⟨_, q, e⟩ := a
  obtain ⟨i, q', e'⟩ := b
  exact ⟨i, q ++ q', by rw [e', e, List.append_assoc]⟩
theorem Ext.sub {s' : FO} (a : Ext n ties g t s s') {h : List Int} (m : h ∈ s.2) : h ∈ s'.2 := by
  obtain ⟨_, q, e⟩ := a
  rw [e]
  exact List.mem_append_left _ m
theorem add_ext (I : J n ties g t s) (hn : 0 ≤ n ∧ n ≤ 5) (ht : t ≤ 9) {after : List Int} (G : Good n ties g t after) :
    Ho (if (!(dget s.1 after).isSome) then (dputO s.1 after true).bind fun found1 => (appO s.2 after).bind fun order1 => some ((found1, order1)) else some ((s.1, s.2))) (fun s' => Ext n ties g t s s' ∧ after ∈ s'.2) :=
  (add_ho I hn ht G).mono fun s' h => ⟨⟨h.1, h.2.2⟩, h.2.1⟩
/-- all edges out of here -/
theorem edges_ho (w : Web n ties) (I : J n ties g t s) (hn : 0 ≤ n ∧ n ≤ 5) (ht : t ≤ 9) {here : List Int} (G : Good n ties g t here) :
    Ho ((rngO 0 n).bind fun u7 => foldO (fun (s2 : (List ((List Int) × Bool)) × (List (List Int))) (a1 : Int) => ((atO here a1).bind fun u4 => some (decide (u4 ≥ 2))).bind fun u6 => if u6 then ((atO ((rng 0 n).map (nbr ties)) a1).bind fun u5 => foldO (fun (s3 : (List ((List Int) × Bool)) × (List (List Int))) (b : Int) => (m_carried here a1 b).bind fun after => if (!(dget s3.1 after).isSome) then (dputO s3.1 after true).bind fun found1 => (appO s3.2 after).bind fun order1 => some ((found1, order1)) else some ((s3.1, s3.2))) u5 (s2.1, s2.2)).bind fun s4 => some ((s4.1, s4.2)) else some ((s2.1, s2.2))) u7 s)
      (fun s' => Ext n ties g t s s' ∧ ∀ a b, Adj ties a b → 2 ≤ fn here a → mvL here a b ∈ s'.2) := by
  have hl := G.len
  rw [rngO_eq (by omega) (by omega), Option.bind_some]
  refine (ho_foldI (Inv := fun p s' => Ext n ties g t s s' ∧ ∀ a ∈ p, 2 ≤ fn here a → ∀ b ∈ nbr ties a, mvL here a b ∈ s'.2) (pre := []) ⟨Ext.rfl' I, fun a ha => by cases ha⟩ fun p a s' ⟨q, e⟩ i => ?_).mono fun s' h => ⟨h.1, fun a b ab h2 => h.2 a (mem_rng.mpr ⟨(adj_rg w ab).1, (adj_rg w ab).2.1⟩) h2 b (mem_nbr.mpr ab)⟩
  rw [List.nil_append] at e
  have ha := mem_rng.mp (show a ∈ rng 0 n by rw [e]; simp)
  rw [at_fn ha.1 (by omega), Option.bind_some, Option.bind_some]
  refine ho_ite (fun h => ?_) fun h => ?_
  · have h2 : 2 ≤ fn here a := of_decide_eq_true h
    rw [at_map ha.1 ha.2, Option.bind_some]
    refine Ho.bind (P := fun s'' => Ext n ties g t s' s'' ∧ ∀ b ∈ nbr ties a, mvL here a b ∈ s''.2) ?_ fun s'' h'' => ho_some ⟨i.1.trans h''.1, fun c hc h3 b hb => ?_⟩
    · refine (ho_foldI (Inv := fun p s'' => Ext n ties g t s' s'' ∧ ∀ b ∈ p, mvL here a b ∈ s''.2) (pre := []) ⟨Ext.rfl' i.1.1, fun a ha => by cases ha⟩ fun p b s'' ⟨q, e⟩ j => ?_)
      rw [List.nil_append] at e
      have hb := mem_nbr.mp (show b ∈ nbr ties a by rw [e]; simp)
      have hr := adj_rg w hb
      rw [carried_eq (by omega) ⟨hr.1, by omega⟩ ⟨hr.2.2.1, by omega⟩ hr.2.2.2.2, Option.bind_some]
      refine (add_ext j.1.1 hn ht (G.mv w hb h2)).mono fun s3 h3 => ⟨j.1.trans h3.1, fun c hc => ?_⟩
      rcases List.mem_append.mp hc with hc | hc
      · exact h3.1.sub (j.2 c hc)
      · have : c = b := by simpa using hc
        rw [this]
        exact h3.2
    · rcases List.mem_append.mp hc with hc | hc
      · exact h''.1.sub (i.2 c hc h3 b hb)
      · have : c = a := by simpa using hc
        subst this
        exact h''.2 b hb
  · refine ho_some ⟨i.1, fun c hc h3 b hb => ?_⟩
    rcases List.mem_append.mp hc with hc | hc
    · exact i.2 c hc h3 b hb
    · have : c = a := by simpa using hc
      subst this
      exact absurd h3 (of_decide_eq_false h)
/-- .. as the law walks them -/
theorem edgesL_ho (w : Web n ties) (I : J n ties g t s) (hn : 0 ≤ n ∧ n ≤ 5) (ht : t ≤ 9) (htl : ties.length ≤ 1000) {here : List Int} (G : Good n ties g t here) :
    Ho (((tupO ties).bind fun u1 => (mapO (fun (x1 : Int × Int) => some ((x1.2, x1.1))) ties).bind fun u2 => catO u1 u2).bind fun u13 => foldO (fun (s2 : (List ((List Int) × Bool)) × (List (List Int))) (x : Int × Int) => ((atO here x.1).bind fun u3 => some (decide (u3 > 1))).bind fun u12 => if u12 then (tupO here).bind fun after => (((atO here x.1).bind fun u4 => some (u4 - 2)).bind fun u6 => ((atO here x.2).bind fun u5 => some (u5 + 1)).bind fun u7 => (setO after x.1 u6).bind fun z => (setO z x.2 u7).map fun w => (z, w)).bind fun q => ((tupO q.2).map fun u8 => !(dget s2.1 u8).isSome).bind fun u11 => if u11 then ((tupO q.2).bind fun u9 => dputO s2.1 u9 true).bind fun found1 => ((tupO q.2).bind fun u10 => appO s2.2 u10).bind fun order1 => some ((found1, order1)) else some ((s2.1, s2.2)) else some ((s2.1, s2.2))) u13 s)
      (fun s' => Ext n ties g t s s' ∧ ∀ a b, Adj ties a b → 2 ≤ fn here a → mvL here a b ∈ s'.2) := by
  have hl := G.len
  rw [tupO_eq (by omega), Option.bind_some, mapO_eq (f := fun x : Int × Int => (x.2, x.1)) (fun _ _ => rfl), Option.bind_some, catO_eq (by rw [List.length_map]; omega), Option.bind_some]
  refine (ho_foldI (Inv := fun p s' => Ext n ties g t s s' ∧ ∀ x ∈ p, 2 ≤ fn here x.1 → mvL here x.1 x.2 ∈ s'.2) (pre := []) ⟨Ext.rfl' I, fun a ha => by cases ha⟩ fun p x s' ⟨q, e⟩ i => ?_).mono fun s' h => ⟨h.1, fun a b ab h2 => h.2 (a, b) ?_ h2⟩
  · rw [List.nil_append]
    rcases ab with ab | ab
    · exact List.mem_append_left _ ab
    · exact List.mem_append_right _ (List.mem_map.mpr ⟨_, ab, rfl⟩)
  rw [List.nil_append] at e
  obtain ⟨a, b⟩ := x
  have hab : Adj ties a b := by
    have : (a, b) ∈ ties ++ ties.map fun x : Int × Int => (x.2, x.1) := by rw [e]; simp
    rcases List.mem_append.mp this with h | h
    · exact .inl h
    · obtain ⟨y, hy, ey⟩ := List.mem_map.mp h
      right
      rw [Prod.mk.injEq] at ey
      rw [← ey.1, ← ey.2]
      exact hy
  have hr := adj_rg w hab
  dsimp only
  rw [at_fn hr.1 (by omega), Option.bind_some, Option.bind_some]
  refine ho_ite (fun h => ?_) fun h => ?_
  · have h2 : 1 < fn here a := of_decide_eq_true h
    have hm : setO (here.set a.toNat (fn here a - 2)) b (fn here b + 1) = some (mvL here a b) := setO_eq hr.2.2.1 (by rw [List.length_set]; omega)
    rw [tupO_eq (by omega), Option.bind_some, Option.bind_some, Option.bind_some, at_fn hr.2.2.1 (by omega), Option.bind_some, Option.bind_some, setO_eq hr.1 (by omega), Option.bind_some, hm, Option.map_some, Option.bind_some]
    dsimp only
    rw [tupO_eq (by rw [mvL_len]; omega), Option.map_some, Option.bind_some, Option.bind_some, Option.bind_some]
    refine (add_ext i.1.1 hn ht (G.mv w hab (by omega))).mono fun s3 h3 => ⟨i.1.trans h3.1, fun c hc h4 => ?_⟩
    rcases List.mem_append.mp hc with hc | hc
    · exact h3.1.sub (i.2 c hc h4)
    · have : c = (a, b) := by simpa using hc
      rw [this]
      exact h3.2
  · refine ho_some ⟨i.1, fun c hc h3 => ?_⟩
    rcases List.mem_append.mp hc with hc | hc
    · exact i.2 c hc h3
    · have : c = (a, b) := by simpa using hc
      subst this
      have := of_decide_eq_false h
      dsimp only at h3
      omega
/-- the loop -/
theorem search_ho (w : Web n ties) (hn : 0 ≤ n ∧ n ≤ 5) (ht : t ≤ 9) {heap : List Int} (hg : g = fn heap) (G : Good n ties g t heap) {place : Int} (hp : 0 ≤ place ∧ place < n)
    {E : List Int → FO → Option FO} (hE : ∀ here s, J n ties g t s → Good n ties g t here → Ho (E here s) (fun s' => Ext n ties g t s s' ∧ ∀ a b, Adj ties a b → 2 ≤ fn here a → mvL here a b ∈ s'.2)) {fu : Nat} (hf : 100001 < fu) :
    Ho ((whileO (fun (s1 : Int × (List ((List Int) × Bool)) × (List (List Int))) => some (decide (s1.1 < (s1.2.2.length : Int)))) (fun (s1 : Int × (List ((List Int) × Bool)) × (List (List Int))) => ((atO s1.2.2 s1.1).bind fun here => ((atO here place).bind fun u3 => some (decide (u3 > 0))).bind fun u8 => if u8 then some (Fl.ex true) else (E here (s1.2.1, s1.2.2)).bind fun s5 => some ((Fl.nx (s1.1 + 1, s5.1, s5.2))) : Option (Fl (Int × (List ((List Int) × Bool)) × (List (List Int))) (Bool)))) fu ((0 : Int), [(heap, true)], [heap])).bind (Fx.on id fun s6 => some (false)))
      (fun b => b = true ↔ ∃ k, Re ties g k ∧ 0 < k place) := by
  refine Ho.bind (P := fun r => (r = .ex true ∧ ∃ k, Re ties g k ∧ 0 < k place) ∨ (∃ s, r = .go s ∧ ¬ ∃ k, Re ties g k ∧ 0 < k place)) ?_ fun r hr => ?_
  rotate_left
  · rcases hr with ⟨rfl, h⟩ | ⟨s, rfl, h⟩
    · exact ho_some ⟨fun _ => h, fun _ => rfl⟩
    · exact ho_some ⟨fun q => (by cases q), fun q => absurd q h⟩
  refine ho_while (Inv := fun s => J n ties g t s.2 ∧ (0 ≤ s.1 ∧ s.1 ≤ (s.2.2.length : Int)) ∧ heap ∈ s.2.2 ∧ ∀ h ∈ s.2.2.take s.1.toNat, fn h place ≤ 0 ∧ ∀ a b, Adj ties a b → 2 ≤ fn h a → mvL h a b ∈ s.2.2) (fun s => 100000 - s.1.toNat) (fun s I => ?_) ?_ (by simp; omega)
  · obtain ⟨at_, f, o⟩ := s
    obtain ⟨I, h0, hh, hd⟩ := I
    dsimp only at I h0 hh hd ⊢
    refine ho_some ?_
    have hlen := I.len hn ht
    dsimp only at hlen
    by_cases hat : at_ < (o.length : Int)
    · rw [decide_eq_true hat, if_pos rfl]
      obtain ⟨x, hx, hxm, hxg⟩ := at_ho h0.1 hat
      have Gx := I.good x hxm
      have hxl := Gx.len
      rw [hx, Option.bind_some, at_fn hp.1 (by omega), Option.bind_some, Option.bind_some]
      refine ho_ite (fun h => ?_) fun h => ?_
      · exact ho_some (.inl ⟨rfl, fn x, Gx.re, of_decide_eq_true h⟩)
      · refine (hE x (f, o) I Gx).bind fun s' hs => ho_some ?_
        obtain ⟨⟨J', q, e⟩, hm⟩ := hs
        dsimp only at e ⊢
        have hto : (at_ + 1).toNat = at_.toNat + 1 := by omega
        refine ⟨⟨J', by rw [e, List.length_append]; omega, by rw [e]; exact List.mem_append_left _ hh, fun y hy => ?_⟩, by omega⟩
        rw [hto, e, List.take_append_of_le_length (by omega), List.take_succ, hxg] at hy
        rcases List.mem_append.mp hy with hy | hy
        · exact ⟨(hd y hy).1, fun a b ab h2 => by rw [e]; exact List.mem_append_left _ ((hd y hy).2 a b ab h2)⟩
        · have : y = x := by simpa using hy
          subst this
          exact ⟨by have := of_decide_eq_false h; omega, hm⟩
    · rw [decide_eq_false hat, if_neg (by simp)]
      refine .inr ⟨_, rfl, fun ⟨k, hk, hk0⟩ => ?_⟩
      rw [List.take_of_length_le (by omega)] at hd
      have : ∀ k, Re ties g k → ∃ h ∈ o, fn h = k := fun k hk => by
        induction hk with
        | refl => exact ⟨heap, hh, hg.symm⟩
        | @step h a b _ e2 e3 ih =>
          obtain ⟨y, hy, ey⟩ := ih
          have hr := adj_rg w e2
          have hl := (I.good y hy).len
          rw [← ey] at e3
          refine ⟨mvL y a b, (hd y hy).2 a b e2 e3, ?_⟩
          rw [fn_mvL ⟨hr.1, by omega⟩ ⟨hr.2.2.1, by omega⟩ hr.2.2.2.2, ey]
      obtain ⟨y, hy, ey⟩ := this k hk
      have := (hd y hy).1
      rw [ey] at this
      omega
  · refine ⟨⟨rfl, by simp, fun h hh => ?_⟩, by simp, by simp, fun h hh => by simp at hh⟩
    have : h = heap := by simpa using hh
    rw [this]
    exact G
theorem reaches_ho (w : Web n ties) (hn : 0 ≤ n ∧ n ≤ 5) (ht : t ≤ 9) {heap : List Int} (G : Good n ties (fn heap) t heap) {place : Int} (hp : 0 ≤ place ∧ place < n) {fu : Nat} (hf : 100001 < fu) :
    Ho (m_reaches fu n ties heap place) (fun b => b = true ↔ ∃ k, Re ties (fn heap) k ∧ 0 < k place) := by
  have hl := G.len
  unfold m_reaches
  rw [rngL_eq (by omega) (by omega) (by omega), Option.bind_some, mapO_eq (f := nbr ties) (fun x _ => beside_eq ties x), Option.bind_some, tupO_eq (by omega), Option.bind_some, Option.bind_some, Option.bind_some, Option.bind_some]
  exact search_ho w hn ht rfl G hp (E := fun here s => _) (fun here s I Gh => edges_ho w I hn ht Gh) hf
theorem lreaches_ho (w : Web n ties) (hn : 0 ≤ n ∧ n ≤ 5) (ht : t ≤ 9) (htl : ties.length ≤ 1000) {heap : List Int} (G : Good n ties (fn heap) t heap) {place : Int} (hp : 0 ≤ place ∧ place < n) {fu : Nat} (hf : 100001 < fu) :
    Ho (m__law_reaches fu ties heap place) (fun b => b = true ↔ ∃ k, Re ties (fn heap) k ∧ 0 < k place) := by
  unfold m__law_reaches
  exact search_ho w hn ht rfl G hp (E := fun here s => _) (fun here s I Gh => edgesL_ho w I hn ht htl Gh) hf
end
end Prog
namespace Prog
open PySem L2 Mir Tr
section
variable {n : Int} {ties : List (Int × Int)} {r : Int} {f : Int → Int}
theorem di_take {ord : List (Int × Int)} {k : Nat} (I : DI n ties r f ord k) (h : (ord.length : Int) ≤ k) : DI n ties r f ord ord.length := by
  have : k = ord.length := by have := I.le; omega
  rw [← this]; exact I
theorem downward_ho (w : Web n ties) (hd : ties.Nodup) (hn : n ≤ 1000) (hr : 0 ≤ r ∧ r < n) (hf : Rooted ties r f) {fu : Nat} (hfu : 2000 < fu) :
    Ho (m_downward fu ties r) (fun ord => DI n ties r f ord ord.length) := by
  unfold m_downward
  dsimp only
  refine Ho.bind (P := fun s : List (Int × Int) × Int => DI n ties r f s.1 s.1.length) ?_ fun s hs => ho_some hs
  refine ho_loop (Inv := fun s => 0 ≤ s.2 ∧ DI n ties r f s.1 s.2.toNat) (fun s => 1001 - s.2.toNat) (fun s I => ?_) ⟨Int.le_refl _, DI.init hr hf⟩ (by simp; omega)
  obtain ⟨ord, at_⟩ := s
  obtain ⟨h0, I⟩ := I
  dsimp only at h0 I ⊢
  have hlen := I.len
  have hle := I.le
  refine ho_some ?_
  by_cases hat : at_ < (ord.length : Int)
  · rw [decide_eq_true hat, if_pos rfl]
    obtain ⟨e, he, _, hg⟩ := at_ho h0 hat
    have S := I.step w hd hf hg
    have hk := S.len
    rw [he, Option.bind_some, beside_eq, Option.bind_some, filtO_eq (p := fun v => !decide (v = e.2)) (f := fun v => (v, e.1)) (fun _ _ => rfl) (fun _ _ _ => rfl), Option.bind_some]
    have ek : ((nbr ties e.1).filter fun v => !decide (v = e.2)).map (fun v => (v, e.1)) = kids ties e := rfl
    rw [ek, catO_eq (by rw [List.length_append] at hk; omega), Option.bind_some]
    have hto : (at_ + 1).toNat = at_.toNat + 1 := by omega
    exact ho_some ⟨⟨by omega, by dsimp only; rw [hto]; exact S⟩, by dsimp only; omega⟩
  · rw [decide_eq_false hat, if_neg (by simp)]
    exact di_take I (by omega)
/-- the fold over a list, as it stands -/
def colL : List (Int × Int) → List Int → List Int
  | [], l => l
  | e :: es, l => colL es (if 0 ≤ e.2 then l.set e.2.toNat (fn l e.2 + fn l e.1 / 2) else l)
theorem colL_len : ∀ (es : List (Int × Int)) (l : List Int), (colL es l).length = l.length
  | [], l => rfl
  | e :: es, l => by
    unfold colL
    rw [colL_len es]
    split
    · rw [List.length_set]
    · rfl
theorem colL_fn : ∀ (es : List (Int × Int)) (l : List Int), (∀ e ∈ es, e.2 < l.length) → fn (colL es l) = es.foldl stp (fn l)
  | [], l, _ => rfl
  | e :: es, l, h => by
    unfold colL
    rw [List.foldl_cons]
    have he := h e List.mem_cons_self
    by_cases q : 0 ≤ e.2
    · rw [if_pos q, colL_fn es _ fun x hx => by rw [List.length_set]; exact h x (List.mem_cons_of_mem _ hx)]
      congr 1
      funext v
      unfold stp
      rw [if_pos q, fn_set q he]
      by_cases hv : v = e.2
      · rw [if_pos hv, if_pos hv, hv]
      · rw [if_neg hv, if_neg hv]
    · rw [if_neg q, colL_fn es _ fun x hx => h x (List.mem_cons_of_mem _ hx)]
      congr 1
      funext v
      unfold stp
      rw [if_neg q]
theorem abv_lt {ord : List (Int × Int)} {k : Nat} (I : DI n ties r f ord k) (hr : 0 ≤ r ∧ r < n) {e : Int × Int} (he : e ∈ ord) : e.2 < n := by
  rcases I.abv e he with h | h
  · omega
  · obtain ⟨y, hy, ey⟩ := List.mem_map.mp h
    have := (I.ent y (List.mem_of_mem_take hy)).2
    omega
theorem abv_ge {ord : List (Int × Int)} {k : Nat} (I : DI n ties r f ord k) {e : Int × Int} (he : e ∈ ord) (h : ¬ 0 ≤ e.2) : e.2 = -1 := by
  rcases I.abv e he with h' | h'
  · exact h'
  · obtain ⟨y, hy, ey⟩ := List.mem_map.mp h'
    have := (I.ent y (List.mem_of_mem_take hy)).2
    omega
theorem tree_reaches_col (w : Web n ties) (hd : ties.Nodup) (hn : n ≤ 1000) (hr : 0 ≤ r ∧ r < n) (hf : Rooted ties r f) {fu : Nat} (hfu : 2000 < fu) {heap : List Int} (hl : (heap.length : Int) = n) :
    Ho (m_tree_reaches fu n ties heap r) (fun b => ∃ ord, DI n ties r f ord ord.length ∧ b = decide (0 < fn (colL ord.reverse heap) r)) := by
  unfold m_tree_reaches
  rw [tupO_eq (by omega), Option.bind_some]
  obtain ⟨ord, e, I⟩ := downward_ho w hd hn hr hf hfu
  rw [e, Option.map_some, Option.bind_some]
  have : foldO (fun (s1 : List Int) (x : Int × Int) => if (decide (x.2 ≥ 0)) then (((atO s1 x.2).bind fun u2 => ((atO s1 x.1).map fun u1 => u1 / 2).bind fun u3 => some (u2 + u3)).bind fun u4 => setO s1 x.2 u4).bind fun left1 => some (left1) else some (s1)) ord.reverse heap = some (colL ord.reverse heap) := by
    have : ∀ (es : List (Int × Int)) (l : List Int), (l.length : Int) = n → (∀ e ∈ es, e ∈ ord) → foldO (fun (s1 : List Int) (x : Int × Int) => if (decide (x.2 ≥ 0)) then (((atO s1 x.2).bind fun u2 => ((atO s1 x.1).map fun u1 => u1 / 2).bind fun u3 => some (u2 + u3)).bind fun u4 => setO s1 x.2 u4).bind fun left1 => some (left1) else some (s1)) es l = some (colL es l) := by
      intro es
      induction es with
      | nil => intro l _ _; rfl
      | cons e es ih =>
        intro l hl he
        have hm := he e List.mem_cons_self
        have h1 := (I.ent e hm).2
        have h2 := abv_lt I hr hm
        unfold foldO colL
        by_cases q : 0 ≤ e.2
        · rw [decide_eq_true (show e.2 ≥ 0 from q), if_pos rfl, if_pos q, at_fn q (by omega), Option.bind_some, at_fn h1.1 (by omega), Option.map_some, Option.bind_some, Option.bind_some, setO_eq q (by omega), Option.bind_some, Option.bind_some]
          exact ih _ (by rw [List.length_set]; exact hl) fun x hx => he x (List.mem_cons_of_mem _ hx)
        · rw [decide_eq_false (show ¬ e.2 ≥ 0 from q), if_neg (by simp), if_neg q, Option.bind_some]
          exact ih _ hl fun x hx => he x (List.mem_cons_of_mem _ hx)
    exact this _ _ hl fun e he => List.mem_reverse.mp he
  rw [this, Option.bind_some, at_fn hr.1 (by rw [colL_len]; omega), Option.bind_some]
  exact ho_some ⟨ord, I, rfl⟩
theorem tree_reaches_ho (h : Tree n ties) (hn : n ≤ 1000) (hr : 0 ≤ r ∧ r < n) {fu : Nat} (hfu : 2000 < fu) {heap : List Int} (hl : (heap.length : Int) = n) (hp : ∀ x ∈ heap, 0 ≤ x) :
    Ho (m_tree_reaches fu n ties heap r) (fun b => b = true ↔ ∃ k, Re ties (fn heap) k ∧ 0 < k r) := by
  obtain ⟨f, hf⟩ := h.rooted r.toNat (by omega)
  have er : ((r.toNat : Nat) : Int) = r := by omega
  rw [er] at hf
  refine (tree_reaches_col h.web h.nd hn hr hf hfu hl).mono fun b ⟨ord, I, e⟩ => ?_
  rw [e, decide_eq_true_eq, colL_fn _ _ fun e he => by rw [hl]; exact abv_lt I hr (List.mem_reverse.mp he)]
  exact col_iff h hr I (fn_nonneg hp)
/-! ### the law's own levels -/
theorem nbr_lt (w : Web n ties) (hd : ties.Nodup) (x : Int) : (nbr ties x).Pairwise (· < ·) := ms_lt_of (nbr_nodup w hd x)
where
  ms_lt_of {x : Int} (h : (nbr ties x).Nodup) : (nbr ties x).Pairwise (· < ·) := by
    unfold nbr at h ⊢
    exact ms_lt (ms_nodup.mp h)
def wrd (ties : List (Int × Int)) (x : Int) : List Int := (([x] ++ (ties.filter fun t => decide (t.1 = x)).map fun t => t.2) ++ (ties.filter fun t => decide (t.2 = x)).map fun t => t.1).mergeSort leI
theorem ward_eq (hl : ties.length ≤ 1000) (x : Int) : m__law_ward ties x = some (wrd ties x) := by
  unfold m__law_ward wrd
  have h1 := List.length_filter_le (fun t : Int × Int => decide (t.1 = x)) ties
  have h2 := List.length_filter_le (fun t : Int × Int => decide (t.2 = x)) ties
  rw [filtO_eq (f := fun t : Int × Int => t.2) (p := fun t => decide (t.1 = x)) (fun _ _ => rfl) (fun _ _ _ => rfl), Option.bind_some, catO_eq (by rw [List.length_map]; show 1 + _ ≤ _; omega), Option.bind_some, filtO_eq (f := fun t : Int × Int => t.1) (p := fun t => decide (t.2 = x)) (fun _ _ => rfl) (fun _ _ _ => rfl), Option.bind_some, catO_eq (by rw [List.length_append, List.length_map, List.length_map]; show 1 + _ + _ ≤ _; omega), Option.map_some]
theorem mem_wrd {x y : Int} : y ∈ wrd ties x ↔ y = x ∨ Adj ties x y := by
  unfold wrd Adj
  rw [mem_ms, List.mem_append, List.mem_append, List.mem_singleton, List.mem_map, List.mem_map]
  constructor
  · rintro ((h | ⟨t, h1, h2⟩) | ⟨t, h1, h2⟩)
    · exact .inl h
    · obtain ⟨h3, h4⟩ := List.mem_filter.mp h1
      right; left
      rw [← h2, ← of_decide_eq_true h4]
      exact h3
    · obtain ⟨h3, h4⟩ := List.mem_filter.mp h1
      right; right
      rw [← h2, ← of_decide_eq_true h4]
      exact h3
  · rintro (h | h | h)
    · exact .inl (.inl h)
    · exact .inl (.inr ⟨_, List.mem_filter.mpr ⟨h, by simp⟩, rfl⟩)
    · exact .inr ⟨_, List.mem_filter.mpr ⟨h, by simp⟩, rfl⟩
theorem wrd_lt (w : Web n ties) (hd : ties.Nodup) (x : Int) : (wrd ties x).Pairwise (· < ·) := by
  unfold wrd
  refine ms_lt ?_
  have a1 : ((ties.filter fun t => decide (t.1 = x)).map fun t => t.2).Nodup := by
    refine (List.pairwise_map.mpr ?_)
    refine List.Pairwise.imp_of_mem (fun {a b} ha hb ne q => ne ?_) (hd.filter _)
    have h1 := of_decide_eq_true (List.mem_filter.mp ha).2
    have h2 := of_decide_eq_true (List.mem_filter.mp hb).2
    exact Prod.ext (h1.trans h2.symm) q
  have a2 : ((ties.filter fun t => decide (t.2 = x)).map fun t => t.1).Nodup := by
    refine (List.pairwise_map.mpr ?_)
    refine List.Pairwise.imp_of_mem (fun {a b} ha hb ne q => ne ?_) (hd.filter _)
    have h1 := of_decide_eq_true (List.mem_filter.mp ha).2
    have h2 := of_decide_eq_true (List.mem_filter.mp hb).2
    exact Prod.ext q (h1.trans h2.symm)
  rw [List.nodup_append, List.nodup_append]
  refine ⟨⟨by simp, a1, fun a ha b hb => ?_⟩, a2, fun a ha b hb => ?_⟩
  · have : a = x := by simpa using ha
    subst this
    obtain ⟨t, h1, h2⟩ := List.mem_map.mp hb
    have := w.rg _ (List.mem_filter.mp h1).1
    have := of_decide_eq_true (List.mem_filter.mp h1).2
    omega
  · obtain ⟨t, h1, h2⟩ := List.mem_map.mp hb
    have r1 := w.rg _ (List.mem_filter.mp h1).1
    have r2 := of_decide_eq_true (List.mem_filter.mp h1).2
    rcases List.mem_append.mp ha with ha | ha
    · have : a = x := by simpa using ha
      omega
    · obtain ⟨t', h1', h2'⟩ := List.mem_map.mp ha
      have r1' := w.rg _ (List.mem_filter.mp h1').1
      have r2' := of_decide_eq_true (List.mem_filter.mp h1').2
      omega
/-- what is new in a ward -/
theorem wrd_new {ord : List (Int × Int)} {k : Nat} {e : Int × Int} (w : Web n ties) (hd : ties.Nodup) (hf : Rooted ties r f) (I : DI n ties r f ord k) (he : ord[k]? = some e) :
    (wrd ties e.1).filter (fun y => !decide (y ∈ ord.map (·.1))) = (kids ties e).map (·.1) := by
  have ek : (kids ties e).map (·.1) = (nbr ties e.1).filter fun v => !decide (v = e.2) := by
    unfold kids
    rw [List.map_map]
    exact List.map_id' _
  have hem := List.mem_of_getElem? he
  refine lt_unique ((wrd_lt w hd e.1).filter _) (by rw [ek]; exact (nbr_lt w hd e.1).filter _) fun y => ?_
  rw [List.mem_filter, mem_wrd]
  constructor
  · rintro ⟨h1, h2⟩
    have hn : y ∉ ord.map (·.1) := by simpa using h2
    rcases h1 with rfl | h1
    · exact absurd (List.mem_map_of_mem hem) hn
    · refine List.mem_map.mpr ⟨(y, e.1), mem_kids.mpr ⟨rfl, h1, fun q => ?_⟩, rfl⟩
      dsimp only at q
      rcases I.abv e hem with h | h
      · have := adj_rg w h1; omega
      · rw [← q] at h
        obtain ⟨z, hz, ez⟩ := List.mem_map.mp h
        exact hn (List.mem_map.mpr ⟨z, List.mem_of_mem_take hz, ez⟩)
  · intro h
    obtain ⟨x, hx, rfl⟩ := List.mem_map.mp h
    refine ⟨.inr (mem_kids.mp hx).2.1, ?_⟩
    have := (I.fresh w hf he hx).1
    simpa using this
theorem levels_ho (w : Web n ties) (hd : ties.Nodup) (hn : n ≤ 100) (hl : ties.length ≤ 1000) (hr : 0 ≤ r ∧ r < n) (hf : Rooted ties r f) {fu : Nat} (hfu : 2000 < fu) :
    Ho (loopO (fun (s5 : Int × (List (Int × Int)) × (List Int)) => some (decide (s5.1 < (s5.2.2.length : Int)))) (fun (s5 : Int × (List (Int × Int)) × (List Int)) => (((atO s5.2.2 s5.1).bind fun u29 => m__law_ward ties u29).bind fun u31 => foldO (fun (s6 : (List (Int × Int)) × (List Int)) (one : Int) => if (!(dget s6.1 one).isSome) then ((atO s6.2 s5.1).bind fun u30 => dputO s6.1 one u30).bind fun above1 => (appO s6.2 one).bind fun order1 => some ((above1, order1)) else some ((s6.1, s6.2))) u31 (s5.2.1, s5.2.2)).bind fun s7 => some (let at_1 : Int := s5.1 + 1; (at_1, s7.1, s7.2))) fu ((0 : Int), [(r, (-1 : Int))], [r]))
      (fun s => DI n ties r f s.2.1 s.2.1.length ∧ s.2.2 = s.2.1.map (·.1)) := by
  refine ho_loop (Inv := fun s => 0 ≤ s.1 ∧ DI n ties r f s.2.1 s.1.toNat ∧ s.2.2 = s.2.1.map (·.1)) (fun s => 1001 - s.1.toNat) (fun s I => ?_) ⟨Int.le_refl _, DI.init hr hf, rfl⟩ (by simp; omega)
  obtain ⟨at_, ord, o⟩ := s
  obtain ⟨h0, I, ho⟩ := I
  dsimp only at h0 I ho ⊢
  subst ho
  have hlen := I.len
  have hle := I.le
  refine ho_some ?_
  rw [List.length_map]
  by_cases hat : at_ < (ord.length : Int)
  · rw [decide_eq_true hat, if_pos rfl]
    obtain ⟨e, he, _, hg⟩ := at_ho h0 hat
    have S := I.step w hd hf hg
    have hk := S.len
    have hto : (at_ + 1).toNat = at_.toNat + 1 := by omega
    have e1 : atO (ord.map (·.1)) at_ = some e.1 := by
      rw [atO_get h0, List.getElem?_map, hg]; rfl
    rw [e1, Option.bind_some, ward_eq hl, Option.bind_some]
    refine Ho.bind (P := fun s => s = (ord ++ kids ties e, (ord ++ kids ties e).map (·.1))) ?_ fun s hs => ?_
    · have hnew := wrd_new w hd hf I hg
      have hkk : ((kids ties e).map (·.1)).map (fun y => (y, e.1)) = kids ties e := by
        unfold kids
        rw [List.map_map, List.map_map]
        rfl
      rw [← hkk, ← hnew]
      have hwl := wrd_lt w hd e.1
      refine (ho_foldI (Inv := fun p s => s = (ord ++ (p.filter (fun y => !decide (y ∈ ord.map (·.1)))).map (fun y => (y, e.1)), (ord ++ (p.filter (fun y => !decide (y ∈ ord.map (·.1)))).map (fun y => (y, e.1))).map (·.1))) (pre := []) (by simp) fun p y s ⟨q, eq⟩ i => ?_).mono fun s hs => by rw [List.nil_append] at hs; exact hs
      rw [List.nil_append] at eq
      subst i
      have hkey : (ord ++ (p.filter (fun y => !decide (y ∈ ord.map (·.1)))).map (fun y => (y, e.1))).map (·.1) = ord.map (·.1) ++ p.filter (fun y => !decide (y ∈ ord.map (·.1))) := by
        rw [List.map_append, List.map_map]
        congr 1
        exact List.map_id' _
      have hyp : y ∉ p := fun h => by
        have hn := lt_nodup hwl
        rw [eq, List.nodup_append] at hn
        exact hn.2.2 y h y List.mem_cons_self rfl
      dsimp only
      rw [dget_some, hkey]
      have hpl : p.length ≤ (wrd ties e.1).length := by rw [eq, List.length_append]; omega
      have hwl2 : (wrd ties e.1).length ≤ 2001 := by
        unfold wrd
        rw [ms_len, List.length_append, List.length_append, List.length_map, List.length_map]
        have h1 := List.length_filter_le (fun t : Int × Int => decide (t.1 = e.1)) ties
        have h2 := List.length_filter_le (fun t : Int × Int => decide (t.2 = e.1)) ties
        show 1 + _ + _ ≤ _
        omega
      have hfl := List.length_filter_le (fun y => !decide (y ∈ ord.map (·.1))) p
      rw [List.filter_append, List.filter_cons, List.filter_nil]
      by_cases hy : y ∈ ord.map (·.1)
      · have e2 : decide (y ∈ ord.map (·.1) ++ p.filter (fun y => !decide (y ∈ ord.map (·.1)))) = true := decide_eq_true (List.mem_append_left _ hy)
        rw [e2, decide_eq_true hy]
        refine ho_some ?_
        simp
        try exact (List.map_id' _).symm
      · have e2 : decide (y ∈ ord.map (·.1) ++ p.filter (fun y => !decide (y ∈ ord.map (·.1)))) = false := decide_eq_false fun h => by
          rcases List.mem_append.mp h with h | h
          · exact hy h
          · exact hyp (List.mem_filter.mp h).1
        rw [e2, decide_eq_false hy]
        have e3 : atO (ord.map (·.1) ++ p.filter (fun y => !decide (y ∈ ord.map (·.1)))) at_ = some e.1 := by
          rw [atO_get h0, List.getElem?_append_left (by rw [List.length_map]; omega), List.getElem?_map, hg]; rfl
        have hnk : y ∉ (ord ++ (p.filter (fun y => !decide (y ∈ ord.map (·.1)))).map (fun y => (y, e.1))).map (·.1) := by
          rw [hkey]; exact of_decide_eq_false e2
        have e4 : dputO (ord ++ (p.filter (fun y => !decide (y ∈ ord.map (·.1)))).map (fun y => (y, e.1))) y e.1 = some (ord ++ (p.filter (fun y => !decide (y ∈ ord.map (·.1)))).map (fun y => (y, e.1)) ++ [(y, e.1)]) := by
          unfold dputO
          rw [if_pos (by rw [line_eq, List.length_append, List.length_map]; omega), dput_new hnk]
        show Ho (((atO _ at_).bind _).bind _) _
        rw [e3, Option.bind_some, e4, Option.bind_some, appO_eq (by rw [List.length_append, List.length_map]; omega), Option.bind_some]
        refine ho_some ?_
        simp
        try exact (List.map_id' _).symm
    · subst hs
      exact ho_some ⟨⟨by dsimp only; omega, by dsimp only; rw [hto]; exact S, rfl⟩, by dsimp only; omega⟩
  · rw [decide_eq_false hat, if_neg (by simp)]
    exact ⟨di_take I (by omega), rfl⟩
theorem di_dget {ord : List (Int × Int)} {k : Nat} (I : DI n ties r f ord k) {e : Int × Int} (he : e ∈ ord) : dget ord e.1 = some e.2 := by
  have h1 : (dget ord e.1).isSome = true := by rw [dget_some]; exact decide_eq_true (List.mem_map_of_mem he)
  obtain ⟨v, hv⟩ := Option.isSome_iff_exists.mp h1
  rw [hv]
  unfold dget at hv
  obtain ⟨q, hq, e2⟩ := Option.map_eq_some_iff.mp hv
  have hm := List.mem_of_find?_eq_some hq
  have hk := List.find?_some hq
  have hk := of_decide_eq_true hk
  have a1 := (I.ent q hm).1
  have a2 := (I.ent e he).1
  rw [← e2, a1, a2, hk]
theorem left_ho {ord : List (Int × Int)} (w : Web n ties) (hr : 0 ≤ r ∧ r < n) (I : DI n ties r f ord ord.length) (hf : Rooted ties r f) {heap : List Int} (hl : (heap.length : Int) = n) :
    foldO (fun (s9 : (List (Int × Int)) × (List Int)) (one1 : Int) => ((((dget s9.1 one1).bind fun u32 => atO s9.2 u32).bind fun u34 => ((atO s9.2 one1).map fun u33 => u33 / 2).bind fun u35 => some (u34 + u35)).bind fun u36 => (dget s9.1 one1).bind fun u37 => setO s9.2 u37 u36).bind fun left1 => some ((s9.1, left1))) (((ord.map (·.1)).drop 1).reverse) (ord, heap) = some (ord, colL ord.reverse heap) := by
  obtain ⟨t, ht, htp⟩ := I.rt
  have ed : ((ord.map (·.1)).drop 1).reverse = t.reverse.map (·.1) := by rw [ht, List.map_reverse]; rfl
  have er : ord.reverse = t.reverse ++ [(r, -1)] := by rw [ht, List.reverse_cons]
  have e2 : colL ord.reverse heap = colL t.reverse heap := by
    have : ∀ (es : List (Int × Int)) (l : List Int), colL (es ++ [(r, -1)]) l = colL es l := by
      intro es
      induction es with
      | nil => intro l; rfl
      | cons e es ih => intro l; show colL (es ++ _) _ = colL es _; exact ih _
    rw [er, this]
  rw [ed, e2]
  have : ∀ (es : List (Int × Int)) (l : List Int), (l.length : Int) = n → (∀ e ∈ es, e ∈ ord ∧ 0 ≤ e.2) → foldO (fun (s9 : (List (Int × Int)) × (List Int)) (one1 : Int) => ((((dget s9.1 one1).bind fun u32 => atO s9.2 u32).bind fun u34 => ((atO s9.2 one1).map fun u33 => u33 / 2).bind fun u35 => some (u34 + u35)).bind fun u36 => (dget s9.1 one1).bind fun u37 => setO s9.2 u37 u36).bind fun left1 => some ((s9.1, left1))) (es.map (·.1)) (ord, l) = some (ord, colL es l) := by
    intro es
    induction es with
    | nil => intro l _ _; rfl
    | cons e es ih =>
      intro l hl he
      obtain ⟨hm, h0⟩ := he e List.mem_cons_self
      have h1 := (I.ent e hm).2
      have h2 := abv_lt I hr hm
      rw [List.map_cons]
      unfold foldO colL
      dsimp only
      rw [di_dget I hm, Option.bind_some, at_fn h0 (by omega), Option.bind_some, at_fn h1.1 (by omega), Option.map_some, Option.bind_some, Option.bind_some, Option.bind_some, setO_eq h0 (by omega), Option.bind_some, Option.bind_some, if_pos h0]
      exact ih _ (by rw [List.length_set]; exact hl) fun x hx => he x (List.mem_cons_of_mem _ hx)
  refine this _ _ hl fun e he => ?_
  have hm : e ∈ ord := by rw [ht]; exact List.mem_cons_of_mem _ (List.mem_reverse.mp he)
  exact ⟨hm, htp e (List.mem_reverse.mp he)⟩
end
end Prog
namespace Prog
open PySem L2 Mir Tr
/-! ### drawn webs that hang together -/
theorem dput_keys {κ ν : Type} [DecidableEq κ] (kvs : List (κ × ν)) (k : κ) (v : ν) : (dput kvs k v).map (·.1) = if k ∈ kvs.map (·.1) then kvs.map (·.1) else kvs.map (·.1) ++ [k] := by
  by_cases h : k ∈ kvs.map (·.1)
  · rw [if_pos h]
    unfold dput
    have : (kvs.any fun q => decide (q.1 = k)) = true := by
      obtain ⟨q, hq, e⟩ := List.mem_map.mp h
      exact List.any_eq_true.mpr ⟨q, hq, decide_eq_true e⟩
    rw [if_pos this, List.map_map]
    refine List.map_congr_left fun q _ => ?_
    show (if q.1 = k then (q.1, v) else q).1 = q.1
    split <;> rfl
  · rw [if_neg h, dput_new h, List.map_append]
    rfl
theorem dputO_eq {κ ν : Type} [DecidableEq κ] {kvs : List (κ × ν)} {k : κ} {v : ν} (h : kvs.length < 16777216) : dputO kvs k v = some (dput kvs k v) := by
  unfold dputO
  rw [if_pos (by rw [line_eq]; exact h)]
structure Hang (n : Int) (ties : List (Int × Int)) : Prop where
  w : Web n ties
  nd : ties.Nodup
  srt : ties.Pairwise (fun a b => leP a b = true)
  par : ∃ p : Int → Int, ∀ i, 1 ≤ i → i < n → (0 ≤ p i ∧ p i < i) ∧ (p i, i) ∈ ties
theorem leP_trans : ∀ a b c : Int × Int, leP a b = true → leP b c = true → leP a c = true := fun a b c h h' => by
  unfold leP at *
  rw [decide_eq_true_eq] at *
  omega
theorem leP_total : ∀ a b : Int × Int, (leP a b || leP b a) = true := fun a b => by
  unfold leP
  rw [Bool.or_eq_true, decide_eq_true_eq, decide_eq_true_eq]
  omega
theorem web_ho {n more : Int} (hn : 1 ≤ n ∧ n ≤ 100) (hm : 0 ≤ more ∧ more ≤ 100) (w_ : DS) :
    Ho (m__law_web n more w_) (fun r => Hang n r.1 ∧ ((r.1.length : Int) ≤ n - 1 + more ∧ n - 1 ≤ (r.1.length : Int)) ∧ (more = 0 → Tree n r.1)) := by
  unfold m__law_web
  dsimp only
  refine Ho.bind (P := fun s : List ((Int × Int) × Bool) × DS => ∃ p : Int → Int, s.1.map (·.1) = (rng 1 n).map (fun i => (p i, i)) ∧ ∀ i ∈ rng 1 n, 0 ≤ p i ∧ p i < i) ?_ fun s2 h2 => ?_
  · rw [rngO_eq (by omega) (by omega), Option.bind_some]
    refine (ho_foldI (Inv := fun pre s => ∃ p : Int → Int, s.1.map (·.1) = pre.map (fun i => (p i, i)) ∧ ∀ i ∈ pre, 0 ≤ p i ∧ p i < i) (pre := []) ⟨fun _ => 0, rfl, fun i hi => by cases hi⟩ fun pre x s ⟨q, e⟩ i => ?_).mono fun s hs => by rw [List.nil_append] at hs; exact hs
    rw [List.nil_append] at e
    have hx := mem_rng.mp (show x ∈ rng 1 n by rw [e]; simp)
    have hlt := rng_lt 1 n
    rw [e, List.pairwise_append] at hlt
    have hl := congrArg List.length e
    rw [rng_len, List.length_append, List.length_cons] at hl
    obtain ⟨p, hp, hr⟩ := i
    have hsl : s.1.length = pre.length := by have := congrArg List.length hp; rw [List.length_map, List.length_map] at this; exact this
    obtain ⟨u, hu, hv⟩ := draw_ho (many := x) (w := s.2) (by omega) (by omega)
    show Ho ((((drawM x s.2).bind _).bind _).bind _) _
    rw [hu, Option.bind_some, Option.bind_some, dputO_eq (by omega), Option.map_some, Option.bind_some]
    have hnk : (u.1, x) ∉ s.1.map (·.1) := by
      rw [hp]
      intro h
      obtain ⟨y, hy, ey⟩ := List.mem_map.mp h
      have h1 := hlt.2.2 y hy x List.mem_cons_self
      have h2 := congrArg Prod.snd ey
      dsimp only at h2
      omega
    refine ho_some ⟨fun i => if i = x then u.1 else p i, ?_, fun i hi => ?_⟩
    · dsimp only
      rw [dput_new hnk, List.map_append, hp, List.map_append]
      congr 1
      · refine List.map_congr_left fun i hi => ?_
        have h1 := hlt.2.2 i hi x List.mem_cons_self
        rw [if_neg (by omega)]
      · simp
    · dsimp only
      rcases List.mem_append.mp hi with hi | hi
      · have h1 := hlt.2.2 i hi x List.mem_cons_self
        rw [if_neg (by omega)]
        exact hr i hi
      · have : i = x := by simpa using hi
        rw [if_pos this, this]
        exact hv
  · obtain ⟨p, hp, hr⟩ := h2
    have hnd1 : ((rng 1 n).map (fun i => (p i, i))).Nodup := by
      refine List.pairwise_map.mpr ((rng_lt 1 n).imp fun {a b} h q => ?_)
      have := congrArg Prod.snd q
      dsimp only at this
      omega
    have hw1 : ∀ t ∈ (rng 1 n).map (fun i => (p i, i)), 0 ≤ t.1 ∧ t.1 < t.2 ∧ t.2 < n := fun t ht => by
      obtain ⟨i, hi, rfl⟩ := List.mem_map.mp ht
      have h1 := mem_rng.mp hi
      have h2 := hr i hi
      dsimp only
      omega
    have hl1 : s2.1.length = (n - 1).toNat := by
      have := congrArg List.length hp
      rw [List.length_map, List.length_map, rng_len] at this
      exact this
    refine Ho.bind (P := fun s : List ((Int × Int) × Bool) × DS => (s.1.map (·.1)).Nodup ∧ (∀ t ∈ s.1.map (·.1), 0 ≤ t.1 ∧ t.1 < t.2 ∧ t.2 < n) ∧ (∃ q, s.1.map (·.1) = s2.1.map (·.1) ++ q ∧ q.length ≤ more.toNat)) ?_ fun s4 h4 => ?_
    · rw [rngO_eq (by omega) (by omega), Option.bind_some]
      refine (ho_foldI (Inv := fun pre (s : List ((Int × Int) × Bool) × DS) => (s.1.map (·.1)).Nodup ∧ (∀ t ∈ s.1.map (·.1), 0 ≤ t.1 ∧ t.1 < t.2 ∧ t.2 < n) ∧ (∃ q, s.1.map (·.1) = s2.1.map (·.1) ++ q ∧ q.length ≤ pre.length)) (pre := []) ⟨by rw [hp]; exact hnd1, by rw [hp]; exact hw1, [], by simp, Nat.zero_le _⟩ fun pre x s ⟨q, e⟩ i => ?_).mono fun s hs => ?_
      · rw [List.nil_append, rng_len] at hs
        obtain ⟨a, b, q, e, l⟩ := hs
        exact ⟨a, b, q, e, by omega⟩
      rw [List.nil_append] at e
      have hl := congrArg List.length e
      rw [rng_len, List.length_append, List.length_cons] at hl
      obtain ⟨i1, i2, q', e', l'⟩ := i
      have hsl : s.1.length = s2.1.length + q'.length := by
        have := congrArg List.length e'
        rw [List.length_map, List.length_append, List.length_map] at this
        exact this
      refine ho_ite (fun h => ?_) fun h => ho_some ⟨i1, i2, q', e', by rw [List.length_append]; omega⟩
      have hn1 : n > 1 := of_decide_eq_true h
      obtain ⟨a, ha, hva⟩ := draw_ho (many := n - 1) (w := s.2) (by omega) (by omega)
      obtain ⟨b, hb, hvb⟩ := draw_ho (many := n - 1 - a.1) (w := a.2) (by omega) (by omega)
      show Ho ((drawM (n - 1) s.2).bind _) _
      rw [ha, Option.bind_some]
      show Ho (((((drawM (n - 1 - a.1) a.2).bind _).bind _).bind _).bind _) _
      rw [hb, Option.bind_some, Option.bind_some, Option.bind_some, dputO_eq (by omega), Option.map_some, Option.bind_some]
      refine ho_some ?_
      dsimp only
      rw [dput_keys]
      by_cases hk : (a.1, a.1 + 1 + b.1) ∈ s.1.map (·.1)
      · rw [if_pos hk]
        exact ⟨i1, i2, q', e', by rw [List.length_append]; omega⟩
      · rw [if_neg hk]
        refine ⟨?_, fun t ht => ?_, q' ++ [(a.1, a.1 + 1 + b.1)], by rw [e', List.append_assoc], by rw [List.length_append, List.length_append]; simp; omega⟩
        · rw [List.nodup_append]
          refine ⟨i1, by simp, fun x hx y hy => ?_⟩
          have : y = (a.1, a.1 + 1 + b.1) := by simpa using hy
          rw [this]
          exact fun q => hk (q ▸ hx)
        · rcases List.mem_append.mp ht with ht | ht
          · exact i2 t ht
          · have : t = (a.1, a.1 + 1 + b.1) := by simpa using ht
            rw [this]
            dsimp only
            omega
    · obtain ⟨k1, k2, q, e, l⟩ := h4
      have hl4 : (s4.1.map (·.1)).length = (n - 1).toNat + q.length := by rw [e, List.length_append, List.length_map, hl1]
      have hperm := List.mergeSort_perm (s4.1.map (·.1)) leP
      rw [tupO_eq (by rw [ms_len, hl4]; omega), Option.map_some]
      refine ho_some ⟨⟨⟨fun t ht => k2 t (hperm.mem_iff.mp ht)⟩, hperm.nodup_iff.mpr k1, List.pairwise_mergeSort (le := leP) (fun a b c => leP_trans a b c) (fun a b => leP_total a b) _, p, fun i h1 h2 => ?_⟩, ?_, fun h0 => ⟨⟨p, fun t => ?_, fun i h1 h2 => hr i (mem_rng.mpr ⟨h1, h2⟩)⟩, hperm.nodup_iff.mpr k1⟩⟩
      · refine ⟨hr i (mem_rng.mpr ⟨h1, h2⟩), hperm.mem_iff.mpr ?_⟩
        rw [e, hp]
        exact List.mem_append_left _ (List.mem_map.mpr ⟨i, mem_rng.mpr ⟨h1, h2⟩, rfl⟩)
      · dsimp only
        rw [ms_len, hl4]
        omega
      · have hq : q = [] := List.length_eq_zero_iff.mp (by omega)
        rw [hperm.mem_iff, e, hp, hq, List.append_nil, List.mem_map]
        constructor
        · rintro ⟨i, hi, rfl⟩
          exact ⟨rfl, mem_rng.mp hi⟩
        · rintro ⟨h1, h2⟩
          exact ⟨t.2, mem_rng.mpr h2, by rw [← h1]⟩
theorem state_ho {ns : List Int} (h : ns.length ≤ 63) : Ho (m__law_state ns) (fun _ => True) := by
  unfold m__law_state
  dsimp only
  refine Ho.bind (P := fun _ => True) ?_ fun s _ => ?_
  · exact ho_fold True.intro fun s x _ _ => ho_some True.intro
  · rw [tupO_eq (by omega), Option.bind_some, mapO_eq (f := fun c => if c < 0 then -c else c) fun _ _ => rfl]
    exact ho_some True.intro
end Prog
namespace Prog
open PySem L2 Mir Tr
theorem get_set_self {h : List Int} {i : Nat} : i < h.length → h.set i ((h[i]?).getD 0) = h := by
  intro hi
  rw [List.getElem?_eq_getElem hi]
  exact List.set_getElem_self hi
theorem fn_ge {h : List Int} {v : Int} (h0 : 0 ≤ v) : fn h v = (h[v.toNat]?).getD 0 := by unfold fn; rw [if_pos h0]
structure Hp (n : Int) (c : Int) (h : List Int) : Prop where
  len : (h.length : Int) = n
  pos : ∀ x ∈ h, 0 ≤ x
  sum : h.sum ≤ c
theorem heap_ho {n c : Int} (hn : 1 ≤ n ∧ n ≤ 1000) (hc : 0 ≤ c ∧ c ≤ 1000) (w : DS) : Ho (foldO (fun (s2 : (List Int) × DS) (k : Int) => (m__law_draw n s2.2).bind fun spot => (((atO s2.1 spot.1).bind fun u5 => some (u5 + 1)).bind fun u6 => setO s2.1 spot.1 u6).bind fun heap1 => some ((heap1, spot.2))) (rng 0 c) (List.replicate n.toNat 0, w)) (fun s => Hp n c s.1) := by
  refine (ho_foldI (Inv := fun p (s : List Int × DS) => Hp n p.length s.1) (pre := []) ⟨by simp; omega, fun x hx => by rw [(List.mem_replicate.mp hx).2]; exact Int.le_refl _, by rw [List.sum_replicate_int]; simp⟩ fun p x s ⟨q, e⟩ i => ?_).mono fun s hs => by
      rw [List.nil_append, rng_len] at hs
      exact ⟨hs.len, hs.pos, by have := hs.sum; omega⟩
  obtain ⟨u, hu, hv⟩ := draw_ho (many := n) (w := s.2) (by omega) (by omega)
  have hl := i.len
  show Ho ((drawM n s.2).bind _) _
  rw [hu, Option.bind_some, at_fn hv.1 (by omega), Option.bind_some, Option.bind_some, setO_eq hv.1 (by omega), Option.bind_some]
  refine ho_some ⟨by rw [List.length_set]; exact hl, fun y hy => ?_, ?_⟩
  · rcases List.mem_or_eq_of_mem_set hy with hy | rfl
    · exact i.pos y hy
    · have := fn_nonneg i.pos u.1; omega
  · dsimp only
    rw [Tr.sum_set (by omega), fn_ge hv.1, List.length_append]
    have := i.sum
    show _ ≤ ((p.length + 1 : Nat) : Int)
    omega
theorem bool_eq {a b : Bool} {P : Prop} (h : a = true ↔ P) (h' : b = true ↔ P) : a = b := by
  rw [Bool.eq_iff_iff, h, h']
theorem tree3 : Tree 3 [(0, 1), (1, 2)] where
  par := ⟨fun i => i - 1, fun t => by
    obtain ⟨a, b⟩ := t
    rw [List.mem_cons, List.mem_singleton, Prod.mk.injEq, Prod.mk.injEq]
    dsimp only
    omega, fun i h1 h2 => by dsimp only; omega⟩
  nd := by decide
theorem web2 : Web 2 [(0, 1)] := ⟨fun t ht => by
  have : t = (0, 1) := by simpa using ht
  subst this
  decide⟩
theorem law_true : ∀ ns : List Int, ns.length ≤ 63 → (∀ z ∈ ns, Builtin.Int.intBits z ≤ 1048576) → m_law 1000000 ns = some true := by
  intro ns hl _
  refine Ho.eq ?_
  unfold m_law
  refine (state_ho hl).bind fun w1 _ => ?_
  refine Ho.bind (P := fun r => ∃ s, r = Fx.go s) ?_ fun r hr => ?_
  · rw [rngO_eq (by omega) (by omega), Option.bind_some]
    refine (ho_for (Inv := fun _ => True) True.intro fun s1 turn _ _ => ?_).mono fun r hr => ⟨hr.choose, hr.choose_spec.1⟩
    refine Ho.bind (P := fun n : Int × DS => 1 ≤ n.1 ∧ n.1 ≤ 5) ?_ fun n hn => ?_
    · refine (draw_ho (by omega) (by omega)).bind fun v hv => ho_some ?_
      show 1 ≤ 1 + v.1 ∧ 1 + v.1 ≤ 5
      omega
    obtain ⟨n, w2⟩ := n
    have hn : 1 ≤ n ∧ n ≤ 5 := hn
    refine Ho.bind (P := fun _ : Bool × DS => True) ?_ fun tree _ => ?_
    · exact (draw_ho (by omega) (by omega)).bind fun v hv => ho_some True.intro
    obtain ⟨tree, w3⟩ := tree
    dsimp only
    have hmore : 0 ≤ (if tree = true then (0 : Int) else 3) ∧ (if tree = true then (0 : Int) else 3) ≤ 3 := by split <;> omega
    refine (web_ho (n := n) (more := if tree = true then 0 else 3) (by omega) (by omega) w3).bind fun ties ht => ?_
    obtain ⟨ties, w4⟩ := ties
    obtain ⟨hg, htl, htree⟩ := ht
    dsimp only at hg htl htree ⊢
    have er : repO [(0 : Int)] n = some (List.replicate n.toNat 0) := by
      unfold repO
      rw [if_pos (by rw [line_eq]; simp; omega)]
      congr 1
      simp
    rw [er, Option.bind_some]
    refine Ho.bind (P := fun s : List Int × DS => Hp n 9 s.1) ?_ fun s3 h3 => ?_
    · refine Ho.bind (P := fun u : List Int × DS => ∃ c : Int, 0 ≤ c ∧ c ≤ 9 ∧ u.1 = rng 0 c) ?_ fun u hu => ?_
      · refine (draw_ho (by omega) (by omega)).bind fun v hv => ?_
        rw [rngO_eq (by omega) (by omega), Option.map_some]
        exact ho_some ⟨v.1, hv.1, by omega, rfl⟩
      · obtain ⟨c, h0, h1, e⟩ := hu
        rw [e]
        exact (heap_ho (by omega) (by omega) u.2).mono fun s hs => ⟨hs.len, hs.pos, by have := hs.sum; omega⟩
    obtain ⟨heap, w5⟩ := s3
    have h3 : Hp n 9 heap := h3
    have hl3 := h3.len
    dsimp only
    refine Ho.bind (P := fun p : Int × DS => 0 ≤ p.1 ∧ p.1 < n) (draw_ho (by omega) (by omega)) fun place hp => ?_
    obtain ⟨place, w6⟩ := place
    have hp : 0 ≤ place ∧ place < n := hp
    dsimp only
    have G : Good n ties (fn heap) 9 heap := ⟨h3.len, h3.pos, h3.sum, .refl⟩
    rw [tupO_eq (by omega), Option.bind_some]
    obtain ⟨due, e1, hd⟩ := lreaches_ho hg.w (by omega) (by omega) (by omega) G hp (fu := 1000000) (by omega)
    rw [e1, Option.bind_some, Option.bind_some]
    obtain ⟨said, e2, hs⟩ := reaches_ho hg.w (by omega) (by omega) G hp (fu := 1000000) (by omega)
    rw [e2, Option.bind_some]
    have : said = due := bool_eq hs hd
    subst this
    have e3 : (if tree = true then ((some heap).bind fun u10 => m_tree_reaches 1000000 n ties u10 place).bind fun u11 => some (!decide (u11 = said)) else some false) = some false := by
      cases htr : tree with
      | false => rfl
      | true =>
        rw [htr] at htree
        obtain ⟨b, e4, hb⟩ := tree_reaches_ho (htree rfl) (by omega) hp (fu := 1000000) (by omega) h3.len h3.pos
        rw [if_pos rfl, Option.bind_some, e4, Option.bind_some, bool_eq hb hs, decide_eq_true rfl]
        rfl
    rw [e3]
    simp only [Bool.not_true, decide_true, Bool.false_eq_true, if_false, Option.bind_some]
    refine ho_ite (fun h => ?_) fun h => ho_some ⟨_, rfl, True.intro⟩
    have h0 : (ties.length : Int) > 0 := of_decide_eq_true h
    refine Ho.bind (P := fun q : (Int × Int) × DS => q.1 ∈ ties) ?_ fun q hq => ?_
    · refine (draw_ho (by omega) (by omega)).bind fun v hv => ?_
      exact (at_ho hv.1 hv.2).map fun x hx => hx.1
    obtain ⟨⟨a, b⟩, w7⟩ := q
    have hab := adj_rg hg.w (.inl hq)
    dsimp only at hab ⊢
    have ha : a < (heap.length : Int) := by omega
    have hb : b < (heap.length : Int) := by omega
    rw [at_fn hab.1 ha, Option.bind_some, Option.bind_some, setO_eq hab.1 ha, Option.bind_some, at_fn hab.2.2.1 hb, Option.bind_some, Option.bind_some, setO_eq hab.2.2.1 hb, Option.bind_some, tupO_eq (by rw [List.length_set]; omega), Option.bind_some, carried_eq (by rw [List.length_set]; omega) (by rw [List.length_set]; omega) (by rw [List.length_set]; omega) hab.2.2.2.2, Option.bind_some, tupO_eq (by rw [List.length_set]; omega), Option.bind_some]
    have e5 : mvL (heap.set a.toNat (fn heap a + 2)) a b = heap.set b.toNat (fn heap b + 1) := by
      unfold mvL
      rw [fn_set hab.1 ha, if_pos rfl, fn_set hab.1 ha, if_neg (by omega), List.set_set]
      have : fn heap a + 2 - 2 = (heap[a.toNat]?).getD 0 := by rw [fn_ge hab.1]; omega
      rw [this, get_set_self (by omega)]
    rw [e5]
    simp only [decide_true, Bool.not_true, Bool.false_eq_true, if_false, Option.bind_some]
    exact ho_some ⟨_, rfl, True.intro⟩
  · obtain ⟨s4, rfl⟩ := hr
    show Ho (((m__law_draw 19 s4).bind fun u24 => some (2 + u24.1, u24.2)).bind _) _
    refine Ho.bind (P := fun n : Int × DS => 2 ≤ n.1 ∧ n.1 ≤ 20) ?_ fun m hm => ?_
    · refine (draw_ho (by omega) (by omega)).bind fun v hv => ho_some ?_
      show 2 ≤ 2 + v.1 ∧ 2 + v.1 ≤ 20
      omega
    obtain ⟨m, w2⟩ := m
    have hm : 2 ≤ m ∧ m ≤ 20 := hm
    refine (web_ho (n := m) (more := 0) (by omega) (by omega) w2).bind fun great ht => ?_
    obtain ⟨great, w3⟩ := great
    obtain ⟨hg, htl, htree⟩ := ht
    have htree := htree rfl
    dsimp only at hg htl htree ⊢
    rw [rngL_eq (by omega) (by omega) (by omega), Option.bind_some]
    refine Ho.bind (P := fun h : List Int × DS => (h.1.length : Int) = m ∧ ∀ x ∈ h.1, 0 ≤ x) ?_ fun heap hh => ?_
    · refine (ho_mapW (P := fun x : Int => 0 ≤ x) (Iw := fun _ => True) True.intro fun k _ w _ => ?_).mono fun r hr => ⟨by rw [hr.1, rng_len]; omega, hr.2.1⟩
      refine Ho.bind (P := fun u : (Int × Unit) × DS => 1 ≤ u.1.1 ∧ u.1.1 ≤ 40) ?_ fun u hu => ?_
      · refine Ho.bind (P := fun u : Int × DS => 1 ≤ u.1 ∧ u.1 ≤ 40) ?_ fun u hu => ho_some hu
        refine (draw_ho (by omega) (by omega)).bind fun v hv => ?_
        refine (at_ho hv.1 (by show _ < (3 : Int); exact hv.2)).map fun x hx => ?_
        have := hx.1
        simp only [List.mem_cons, List.not_mem_nil, or_false] at this
        dsimp only
        omega
      · exact (draw_ho (by omega) (by omega)).mono fun v hv => ⟨hv.1, True.intro⟩
    obtain ⟨heap, w4⟩ := heap
    obtain ⟨hhl, hhp⟩ := hh
    dsimp only at hhl hhp ⊢
    refine Ho.bind (P := fun p : Int × DS => 0 ≤ p.1 ∧ p.1 < m) (draw_ho (by omega) (by omega)) fun root hr => ?_
    obtain ⟨root, w5⟩ := root
    have hr : 0 ≤ root ∧ root < m := hr
    dsimp only
    obtain ⟨f, hf⟩ := htree.rooted root.toNat (by omega)
    have er : ((root.toNat : Nat) : Int) = root := by omega
    rw [er] at hf
    refine (levels_ho hg.w hg.nd (by omega) (by omega) hr hf (fu := 1000000) (by omega)).bind fun s8 h8 => ?_
    obtain ⟨at_, above, order⟩ := s8
    obtain ⟨I, ho⟩ := h8
    dsimp only at I ho ⊢
    subst ho
    rw [tupO_eq (by omega), Option.bind_some, left_ho hg.w hr I hf hhl, Option.bind_some]
    obtain ⟨b, e1, hb⟩ := tree_reaches_ho htree (by omega) hr (fu := 1000000) (by omega) hhl hhp
    rw [e1, Option.bind_some, if_pos rfl]
    dsimp only
    rw [at_fn hr.1 (by rw [colL_len]; omega), Option.bind_some, Option.bind_some]
    have hcol : decide (fn (colL above.reverse heap) root > 0) = true ↔ ∃ k, Re great (fn heap) k ∧ 0 < k root := by
      rw [decide_eq_true_eq, colL_fn _ _ fun e he => by rw [hhl]; exact abv_lt I hr (List.mem_reverse.mp he)]
      exact col_iff htree hr I (fn_nonneg hhp)
    rw [bool_eq hb hcol, decide_eq_true rfl, Option.bind_some, if_pos rfl]
    obtain ⟨b2, e2, hb2⟩ := reaches_ho (n := 2) (t := 1) (heap := [1, 0]) (place := 1) web2 (by omega) (by omega) ⟨rfl, by decide, by decide, .refl⟩ (by omega) (fu := 1000000) (by omega)
    have hf2 : b2 = false := by
      cases b2 with
      | false => rfl
      | true =>
        obtain ⟨k, hk, h0⟩ := hb2.mp rfl
        have : k = fn [1, 0] := by
          clear h0
          induction hk with
          | refl => rfl
          | @step h a b _ e3 e4 ih =>
            subst ih
            rcases e3 with e3 | e3
            · have e3 : (a, b) = (0, 1) := by simpa using e3
              rw [Prod.mk.injEq] at e3
              rw [e3.1] at e4
              exact absurd e4 (by decide)
            · have e3 : (b, a) = (0, 1) := by simpa using e3
              rw [Prod.mk.injEq] at e3
              rw [e3.2] at e4
              exact absurd e4 (by decide)
        rw [this] at h0
        exact absurd h0 (by decide)
    obtain ⟨b3, e3, hb3⟩ := tree_reaches_ho (n := 3) (r := 2) (heap := [4, 0, 0]) tree3 (by omega) (by omega) (fu := 1000000) (by omega) rfl (by decide)
    have hf3 : b3 = true := hb3.mpr ⟨_, (((Re.refl.step (a := 0) (b := 1) (.inl (by decide)) (by decide)).step (a := 0) (b := 1) (.inl (by decide)) (by decide)).step (a := 1) (b := 2) (.inl (by decide)) (by decide)), by decide⟩
    rw [e2, Option.bind_some, hf2, decide_eq_true rfl, Option.bind_some, if_pos rfl, e3, Option.bind_some, hf3, decide_eq_true rfl]
    exact ho_some rfl
end Prog
namespace Prog
open PySem L2 Mir
theorem all_mk (hlaw : ∀ ns : List Int, ns.length ≤ 63 → (∀ z ∈ ns, Builtin.Int.intBits z ≤ 1048576) → m_law 1000000 ns = some true) {l : PySem.W.OpenLaw} {w : World} {K : PySem.W.Frag} {h : Heap} {mg : Str → Option Value} {fa f0 f1 f2 f3 f4 f5 f6 f7 f8 f9 f10 : Addr} (X : K.In h) (G : h.Ns mainGlobals mg) (hfa : mg "law" = some (.ref fa))
    {od0 an0 od1 an1 od2 an2 od3 an3 od4 an4 od5 an5 od6 an6 od7 an7 od8 an8 od9 an9 od10 an10 : Option Addr} {sl0 sl1 sl2 sl3 sl4 sl5 sl6 sl7 sl8 sl9 sl10 : Array (Option Value)} {oc0 kV0 dc0 pm0 cd0 ct0 oc1 kV1 dc1 pm1 cd1 ct1 oc2 kV2 dc2 pm2 cd2 ct2 oc3 kV3 dc3 pm3 cd3 ct3 oc4 kV4 dc4 pm4 cd4 ct4 oc5 kV5 dc5 pm5 cd5 ct5 oc6 kV6 dc6 pm6 cd6 ct6 oc7 kV7 dc7 pm7 cd7 ct7 oc8 kV8 dc8 pm8 cd8 ct8 oc9 kV9 dc9 pm9 cd9 ct9 oc10 kV10 dc10 pm10 cd10 ct10 : Value}
    (a0 : PySem.W.nsIn K mainGlobals "beside" = some (some (.ref f0))) (l0 : K.lookup f0 = some ⟨oc0, od0, .func (PySem.W.fnOf "beside" "beside" (defArgs s_beside) (defBody s_beside) (defScope s_beside) .none kV0 dc0 pm0 an0 cd0 ct0), sl0⟩) (c0 : PySem.W.codeIn K cd0 "beside" = true) (k0 : PySem.W.keepIn K (.ref f0) = true)
    (a1 : PySem.W.nsIn K mainGlobals "carried" = some (some (.ref f1))) (l1 : K.lookup f1 = some ⟨oc1, od1, .func (PySem.W.fnOf "carried" "carried" (defArgs s_carried) (defBody s_carried) (defScope s_carried) .none kV1 dc1 pm1 an1 cd1 ct1), sl1⟩) (c1 : PySem.W.codeIn K cd1 "carried" = true) (k1 : PySem.W.keepIn K (.ref f1) = true)
    (a2 : PySem.W.nsIn K mainGlobals "reaches" = some (some (.ref f2))) (l2 : K.lookup f2 = some ⟨oc2, od2, .func (PySem.W.fnOf "reaches" "reaches" (defArgs s_reaches) (defBody s_reaches) (defScope s_reaches) .none kV2 dc2 pm2 an2 cd2 ct2), sl2⟩) (c2 : PySem.W.codeIn K cd2 "reaches" = true) (k2 : PySem.W.keepIn K (.ref f2) = true)
    (a3 : PySem.W.nsIn K mainGlobals "downward" = some (some (.ref f3))) (l3 : K.lookup f3 = some ⟨oc3, od3, .func (PySem.W.fnOf "downward" "downward" (defArgs s_downward) (defBody s_downward) (defScope s_downward) .none kV3 dc3 pm3 an3 cd3 ct3), sl3⟩) (c3 : PySem.W.codeIn K cd3 "downward" = true) (k3 : PySem.W.keepIn K (.ref f3) = true)
    (a4 : PySem.W.nsIn K mainGlobals "tree_reaches" = some (some (.ref f4))) (l4 : K.lookup f4 = some ⟨oc4, od4, .func (PySem.W.fnOf "tree_reaches" "tree_reaches" (defArgs s_tree_reaches) (defBody s_tree_reaches) (defScope s_tree_reaches) .none kV4 dc4 pm4 an4 cd4 ct4), sl4⟩) (c4 : PySem.W.codeIn K cd4 "tree_reaches" = true) (k4 : PySem.W.keepIn K (.ref f4) = true)
    (a5 : PySem.W.nsIn K mainGlobals "_law_state" = some (some (.ref f5))) (l5 : K.lookup f5 = some ⟨oc5, od5, .func (PySem.W.fnOf "_law_state" "_law_state" (defArgs s__law_state) (defBody s__law_state) (defScope s__law_state) .none kV5 dc5 pm5 an5 cd5 ct5), sl5⟩) (c5 : PySem.W.codeIn K cd5 "_law_state" = true) (k5 : PySem.W.keepIn K (.ref f5) = true)
    (a6 : PySem.W.nsIn K mainGlobals "_law_draw" = some (some (.ref f6))) (l6 : K.lookup f6 = some ⟨oc6, od6, .func (PySem.W.fnOf "_law_draw" "_law_draw" (defArgs s__law_draw) (defBody s__law_draw) (defScope s__law_draw) .none kV6 dc6 pm6 an6 cd6 ct6), sl6⟩) (c6 : PySem.W.codeIn K cd6 "_law_draw" = true) (k6 : PySem.W.keepIn K (.ref f6) = true)
    (a7 : PySem.W.nsIn K mainGlobals "_law_web" = some (some (.ref f7))) (l7 : K.lookup f7 = some ⟨oc7, od7, .func (PySem.W.fnOf "_law_web" "_law_web" (defArgs s__law_web) (defBody s__law_web) (defScope s__law_web) .none kV7 dc7 pm7 an7 cd7 ct7), sl7⟩) (c7 : PySem.W.codeIn K cd7 "_law_web" = true) (k7 : PySem.W.keepIn K (.ref f7) = true)
    (a8 : PySem.W.nsIn K mainGlobals "_law_ward" = some (some (.ref f8))) (l8 : K.lookup f8 = some ⟨oc8, od8, .func (PySem.W.fnOf "_law_ward" "_law_ward" (defArgs s__law_ward) (defBody s__law_ward) (defScope s__law_ward) .none kV8 dc8 pm8 an8 cd8 ct8), sl8⟩) (c8 : PySem.W.codeIn K cd8 "_law_ward" = true) (k8 : PySem.W.keepIn K (.ref f8) = true)
    (a9 : PySem.W.nsIn K mainGlobals "_law_reaches" = some (some (.ref f9))) (l9 : K.lookup f9 = some ⟨oc9, od9, .func (PySem.W.fnOf "_law_reaches" "_law_reaches" (defArgs s__law_reaches) (defBody s__law_reaches) (defScope s__law_reaches) .none kV9 dc9 pm9 an9 cd9 ct9), sl9⟩) (c9 : PySem.W.codeIn K cd9 "_law_reaches" = true) (k9 : PySem.W.keepIn K (.ref f9) = true)
    (a10 : PySem.W.nsIn K mainGlobals "law" = some (some (.ref f10))) (l10 : K.lookup f10 = some ⟨oc10, od10, .func (PySem.W.fnOf "law" "law" (defArgs s_law) (defBody s_law) (defScope s_law) .none kV10 dc10 pm10 an10 cd10 ct10), sl10⟩) (c10 : PySem.W.codeIn K cd10 "law" = true) (k10 : PySem.W.keepIn K (.ref f10) = true)
    (z_abs : PySem.W.nsIn K mainGlobals "abs" = some none) (z_bool : PySem.W.nsIn K mainGlobals "bool" = some none) (z_int : PySem.W.nsIn K mainGlobals "int" = some none) (z_isinstance : PySem.W.nsIn K mainGlobals "isinstance" = some none) (z_len : PySem.W.nsIn K mainGlobals "len" = some none) (z_list : PySem.W.nsIn K mainGlobals "list" = some none) (z_range : PySem.W.nsIn K mainGlobals "range" = some none) (z_reversed : PySem.W.nsIn K mainGlobals "reversed" = some none) (z_sorted : PySem.W.nsIn K mainGlobals "sorted" = some none) (z_tuple : PySem.W.nsIn K mainGlobals "tuple" = some none) :
    ∃ fd : FuncData, (∀ (s : Shared) (v : Value), BindsTo s fd ⟨[v], []⟩ [("script", v)]) ∧ ∀ base : Heap, K.In base → base.Ns mainGlobals mg → FnOk l.prog w K mg base CX0 4 fa fd ["script"] (spLaw K) := by
  have e := hfa.symm.trans (PySem.W.mg_of X G a10)
  cases e
  have T : Txt mg := ⟨PySem.W.mg_none_of X G z_abs, PySem.W.mg_none_of X G z_bool, PySem.W.mg_none_of X G z_int, PySem.W.mg_none_of X G z_isinstance, PySem.W.mg_none_of X G z_len, PySem.W.mg_none_of X G z_list, PySem.W.mg_none_of X G z_range, PySem.W.mg_none_of X G z_reversed, PySem.W.mg_none_of X G z_sorted, PySem.W.mg_none_of X G z_tuple⟩
  have F0 := fun_mk (st := s_beside) l0 c0 k0
  have b0 := F0.binds (ps := ["ties", "place"]) fun _ _ _ _ _ _ us hl => match us, hl with | [_, _], _ => rfl
  have F1 := fun_mk (st := s_carried) l1 c1 k1
  have b1 := F1.binds (ps := ["heap", "a", "b"]) fun _ _ _ _ _ _ us hl => match us, hl with | [_, _, _], _ => rfl
  have F2 := fun_mk (st := s_reaches) l2 c2 k2
  have b2 := F2.binds (ps := ["n", "ties", "heap", "place"]) fun _ _ _ _ _ _ us hl => match us, hl with | [_, _, _, _], _ => rfl
  have F3 := fun_mk (st := s_downward) l3 c3 k3
  have b3 := F3.binds (ps := ["ties", "root"]) fun _ _ _ _ _ _ us hl => match us, hl with | [_, _], _ => rfl
  have F4 := fun_mk (st := s_tree_reaches) l4 c4 k4
  have b4 := F4.binds (ps := ["n", "ties", "heap", "place"]) fun _ _ _ _ _ _ us hl => match us, hl with | [_, _, _, _], _ => rfl
  have F5 := fun_mk (st := s__law_state) l5 c5 k5
  have b5 := F5.binds (ps := ["script"]) fun _ _ _ _ _ _ us hl => match us, hl with | [_], _ => rfl
  have F6 := fun_mk (st := s__law_draw) l6 c6 k6
  have b6 := F6.binds (ps := ["state", "many"]) fun _ _ _ _ _ _ us hl => match us, hl with | [_, _], _ => rfl
  have F7 := fun_mk (st := s__law_web) l7 c7 k7
  have b7 := F7.binds (ps := ["state", "n", "more"]) fun _ _ _ _ _ _ us hl => match us, hl with | [_, _, _], _ => rfl
  have F8 := fun_mk (st := s__law_ward) l8 c8 k8
  have b8 := F8.binds (ps := ["ties", "place"]) fun _ _ _ _ _ _ us hl => match us, hl with | [_, _], _ => rfl
  have F9 := fun_mk (st := s__law_reaches) l9 c9 k9
  have b9 := F9.binds (ps := ["ties", "heap", "place"]) fun _ _ _ _ _ _ us hl => match us, hl with | [_, _, _], _ => rfl
  have F10 := fun_mk (st := s_law) l10 c10 k10
  refine ⟨PySem.W.fnOf "law" "law" (defArgs s_law) (defBody s_law) (defScope s_law) .none kV10 dc10 pm10 an10 cd10 ct10, fun s v => .of_eq rfl, fun base _ _ => ?_⟩
  have K_beside : Kn_beside l.prog w K mg base := k_beside F0 (PySem.W.mg_of X G a0) b0 T 
  have K_carried : Kn_carried l.prog w K mg base := k_carried F1 (PySem.W.mg_of X G a1) b1 T 
  have K_reaches : Kn_reaches l.prog w K mg base 1000000 := k_reaches 1000000 F2 (PySem.W.mg_of X G a2) b2 T K_beside K_carried
  have K_downward : Kn_downward l.prog w K mg base 1000000 := k_downward 1000000 F3 (PySem.W.mg_of X G a3) b3 T K_beside
  have K_tree_reaches : Kn_tree_reaches l.prog w K mg base 1000000 := k_tree_reaches 1000000 F4 (PySem.W.mg_of X G a4) b4 T K_downward
  have K__law_state : Kn__law_state l.prog w K mg base := k__law_state F5 (PySem.W.mg_of X G a5) b5 T 
  have K__law_draw : Kn__law_draw l.prog w K mg base := k__law_draw F6 (PySem.W.mg_of X G a6) b6 T 
  have K__law_web : Kn__law_web l.prog w K mg base := k__law_web F7 (PySem.W.mg_of X G a7) b7 T K__law_draw
  have K__law_ward : Kn__law_ward l.prog w K mg base := k__law_ward F8 (PySem.W.mg_of X G a8) b8 T 
  have K__law_reaches : Kn__law_reaches l.prog w K mg base 1000000 := k__law_reaches 1000000 F9 (PySem.W.mg_of X G a9) b9 T 
  exact law_imp hlaw (k_law 1000000 F10 T K__law_draw K__law_reaches K__law_state K__law_ward K__law_web K_carried K_reaches K_tree_reaches)
end Prog
open PySem PySem.W PyProof.Rows in
set_option maxRecDepth 100000 in
set_option maxHeartbeats 0 in
theorem PySem.Challenge.cw_chasedwebs_k16_whole_pebbles_holds : PySem.Challenge.rw_chasedwebs_k16_whole_pebbles.Holds := by
  w_on; o_law; k_head; (case hw => w_witness2)
  k_fill
  refine Mir.walk_law (k := 4) (l := PySem.Challenge.rw_chasedwebs_k16_whole_pebbles) rfl rfl ⟨rfl, by decide, by decide⟩ (fun w h Y => PySem.W.kIn_of Y) ?F
  case F =>
    intro w mg fa h KX G hmg
    refine' Prog.all_mk Prog.law_true KX G hmg ?a0 ?l0 ?c0 ?k0 ?a1 ?l1 ?c1 ?k1 ?a2 ?l2 ?c2 ?k2 ?a3 ?l3 ?c3 ?k3 ?a4 ?l4 ?c4 ?k4 ?a5 ?l5 ?c5 ?k5 ?a6 ?l6 ?c6 ?k6 ?a7 ?l7 ?c7 ?k7 ?a8 ?l8 ?c8 ?k8 ?a9 ?l9 ?c9 ?k9 ?a10 ?l10 ?c10 ?k10 ?z_abs ?z_bool ?z_int ?z_isinstance ?z_len ?z_list ?z_range ?z_reversed ?z_sorted ?z_tuple
    (case a0 => k_is)
    (case l0 => k_is)
    (case c0 => k_is)
    (case k0 => k_is)
    (case a1 => k_is)
    (case l1 => k_is)
    (case c1 => k_is)
    (case k1 => k_is)
    (case a2 => k_is)
    (case l2 => k_is)
    (case c2 => k_is)
    (case k2 => k_is)
    (case a3 => k_is)
    (case l3 => k_is)
    (case c3 => k_is)
    (case k3 => k_is)
    (case a4 => k_is)
    (case l4 => k_is)
    (case c4 => k_is)
    (case k4 => k_is)
    (case a5 => k_is)
    (case l5 => k_is)
    (case c5 => k_is)
    (case k5 => k_is)
    (case a6 => k_is)
    (case l6 => k_is)
    (case c6 => k_is)
    (case k6 => k_is)
    (case a7 => k_is)
    (case l7 => k_is)
    (case c7 => k_is)
    (case k7 => k_is)
    (case a8 => k_is)
    (case l8 => k_is)
    (case c8 => k_is)
    (case k8 => k_is)
    (case a9 => k_is)
    (case l9 => k_is)
    (case c9 => k_is)
    (case k9 => k_is)
    (case a10 => k_is)
    (case l10 => k_is)
    (case c10 => k_is)
    (case k10 => k_is)
    (case z_abs => k_is)
    (case z_bool => k_is)
    (case z_int => k_is)
    (case z_isinstance => k_is)
    (case z_len => k_is)
    (case z_list => k_is)
    (case z_range => k_is)
    (case z_reversed => k_is)
    (case z_sorted => k_is)
    (case z_tuple => k_is)
