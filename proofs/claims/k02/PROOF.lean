import PyProof.Rows.All
import Wide.All
import OpenK.AllK
import Wide.FinOn
import HandS.ForMost
import HandS.Exc
import HandS.TryOnly
import HandS.TryMany
import HandS.ExcOwn
import HandS.WordsExc
import KE.DataEq
import HandS.IsInst
import HandS.Ends
import PySem.Challenge.RW_callsmith_k02_trees_within
set_option Elab.async false
set_option linter.all false
set_option maxRecDepth 100000
set_option maxHeartbeats 4000000
/-! CsBase: immutable data (Dat) over the heap, things that may change (Mem), and a calculus of what statements do, told by data alone. -/
namespace CS
open PySem L2

/-- plain data: what a value stands for -/
inductive Dat where
  | non | bl (b : Bool) | int (i : Int) | str (s : Str)
  | tup (xs : List Dat) | lst (xs : List Dat) | scr (ns : List Int) | dct (kvs : List (Key × Dat))

mutual
/-- the value v stands for d, by what the frozen part F tells -/
inductive Rp (K : PySem.W.Frag) (F : Hp) : V → Dat → Prop
  | non : Rp K F .non .non
  | bl (b : Bool) : Rp K F (.bl b) (.bl b)
  | int (i : Int) : Rp K F (.int i) (.int i)
  | str (s : Str) : Rp K F (.str s) (.str s)
  | tup {a : Addr} {vs : List V} {ds : List Dat} : F a = some (.tup vs) → RpL K F vs ds → Rp K F (.ref a) (.tup ds)
  | lst {a : Addr} {vs : List V} {ds : List Dat} : F a = some (.lst vs) → RpL K F vs ds → Rp K F (.ref a) (.lst ds)
  | scr {a : Addr} {ns : List Int} : SqL K F a (ns.map V.int) → Rp K F (.ref a) (.scr ns)
  | dct {a : Addr} {vs : List (Key × V)} {ds : List (Key × Dat)} : F a = some (.dK vs) → RpK K F vs ds → Rp K F (.ref a) (.dct ds)
inductive RpL (K : PySem.W.Frag) (F : Hp) : List V → List Dat → Prop
  | nil : RpL K F [] []
  | cons {v : V} {d : Dat} {vs : List V} {ds : List Dat} : Rp K F v d → RpL K F vs ds → RpL K F (v :: vs) (d :: ds)
inductive RpK (K : PySem.W.Frag) (F : Hp) : List (Key × V) → List (Key × Dat) → Prop
  | nil : RpK K F [] []
  | cons {k : Key} {v : V} {d : Dat} {vs : List (Key × V)} {ds : List (Key × Dat)} : Rp K F v d → RpK K F vs ds → RpK K F ((k, v) :: vs) ((k, d) :: ds)
end

section
variable {K : PySem.W.Frag} {F F' : Hp}
mutual
theorem Rp.mono (s : Same F F') : ∀ {v : V} {d : Dat}, Rp K F v d → Rp K F' v d
  | _, _, .non => .non
  | _, _, .bl b => .bl b
  | _, _, .int i => .int i
  | _, _, .str x => .str x
  | _, _, .tup h r => .tup (s _ _ h) (RpL.mono s r)
  | _, _, .lst h r => .lst (s _ _ h) (RpL.mono s r)
  | _, _, .scr h => .scr (s.seq h)
  | _, _, .dct h r => .dct (s _ _ h) (RpK.mono s r)
theorem RpL.mono (s : Same F F') : ∀ {vs : List V} {ds : List Dat}, RpL K F vs ds → RpL K F' vs ds
  | _, _, .nil => .nil
  | _, _, .cons h r => .cons (Rp.mono s h) (RpL.mono s r)
theorem RpK.mono (s : Same F F') : ∀ {vs : List (Key × V)} {ds : List (Key × Dat)}, RpK K F vs ds → RpK K F' vs ds
  | _, _, .nil => .nil
  | _, _, .cons h r => .cons (Rp.mono s h) (RpK.mono s r)
end
theorem RpL.len : ∀ {vs : List V} {ds : List Dat}, RpL K F vs ds → vs.length = ds.length
  | _, _, .nil => rfl
  | _, _, .cons _ r => congrArg (· + 1) (RpL.len r)
theorem RpL.get : ∀ {vs : List V} {ds : List Dat} {i : Nat} {d : Dat}, RpL K F vs ds → ds[i]? = some d → ∃ v, vs[i]? = some v ∧ Rp K F v d
  | _, _, _, _, .nil, e => by simp at e
  | _, _, 0, _, .cons h _, e => by
    have e' := Option.some.inj e
    subst e'
    exact ⟨_, rfl, h⟩
  | _, _, i + 1, d, .cons _ r, e => by
    obtain ⟨v, h1, h2⟩ := RpL.get (i := i) (d := d) r (by simpa using e)
    exact ⟨v, by simpa using h1, h2⟩
theorem RpL.getV : ∀ {vs : List V} {ds : List Dat} {i : Nat} {v : V}, RpL K F vs ds → vs[i]? = some v → ∃ d, ds[i]? = some d ∧ Rp K F v d
  | _, _, _, _, .nil, e => by simp at e
  | _, _, 0, _, .cons h _, e => by
    have e' := Option.some.inj e
    subst e'
    exact ⟨_, rfl, h⟩
  | _, _, i + 1, d, .cons _ r, e => by
    obtain ⟨v, h1, h2⟩ := RpL.getV (i := i) (v := d) r (by simpa using e)
    exact ⟨v, by simpa using h1, h2⟩
theorem RpL.append : ∀ {vs ws : List V} {ds es : List Dat}, RpL K F vs ds → RpL K F ws es → RpL K F (vs ++ ws) (ds ++ es)
  | _, _, _, _, .nil, s => s
  | _, _, _, _, .cons h r, s => .cons h (RpL.append r s)
theorem RpL.take : ∀ {vs : List V} {ds : List Dat} (n : Nat), RpL K F vs ds → RpL K F (vs.take n) (ds.take n)
  | _, _, 0, _ => .nil
  | _, _, _ + 1, .nil => .nil
  | _, _, n + 1, .cons h r => .cons h (RpL.take n r)
theorem RpL.drop : ∀ {vs : List V} {ds : List Dat} (n : Nat), RpL K F vs ds → RpL K F (vs.drop n) (ds.drop n)
  | _, _, 0, r => r
  | _, _, _ + 1, .nil => .nil
  | _, _, n + 1, .cons _ r => RpL.drop n r
theorem RpL.set {v : V} {d : Dat} (h : Rp K F v d) : ∀ {vs : List V} {ds : List Dat} (n : Nat), RpL K F vs ds → RpL K F (vs.set n v) (ds.set n d)
  | _, _, _, .nil => .nil
  | _, _, 0, .cons _ r => .cons h r
  | _, _, n + 1, .cons g r => .cons g (RpL.set h n r)
theorem RpL.map_int : ∀ {ns : List Int}, RpL K F (ns.map V.int) (ns.map Dat.int)
  | [] => .nil
  | n :: ns => .cons (.int n) (RpL.map_int (ns := ns))
theorem RpL.int_inv : ∀ {ns : List Int} {vs : List V}, RpL K F vs (ns.map Dat.int) → vs = ns.map V.int
  | [], _, h => by
    cases h
    rfl
  | n :: ns, _, h => by
    cases h with
    | cons a r =>
      cases a
      rw [RpL.int_inv r]
      rfl
theorem RpL.str_inv : ∀ {ns : List Str} {vs : List V}, RpL K F vs (ns.map Dat.str) → vs = ns.map V.str
  | [], _, h => by
    cases h
    rfl
  | n :: ns, _, h => by
    cases h with
    | cons a r =>
      cases a
      rw [RpL.str_inv r]
      rfl
theorem RpL.map_str : ∀ {ns : List Str}, RpL K F (ns.map V.str) (ns.map Dat.str)
  | [] => .nil
  | n :: ns => .cons (.str n) (RpL.map_str (ns := ns))
end

/-! ### names, things that may change -/
/-- what a place holds: nothing known, data, a thing that may change at p -/
inductive DV where
  | no | d (x : Dat) | m (p : Addr)
/-- a thing that may change -/
inductive MO where
  | lst (xs : List DV) | dct (kvs : List (Key × DV)) | ins (C dx : Addr) (fs : List (Str × DV)) | tup (xs : List DV)
abbrev Mem := List (Addr × MO)
abbrev Slots := List (Str × DV)

def VOk (K : PySem.W.Frag) (F : Hp) (v : V) : DV → Prop
  | .no => True
  | .d x => Rp K F v x
  | .m p => v = .ref p
def SOk (K : PySem.W.Frag) (F : Hp) (o : Option V) (dv : DV) : Prop :=
  match dv with
  | .no => True
  | dv => ∃ v, o = some v ∧ VOk K F v dv
inductive VL (K : PySem.W.Frag) (F : Hp) : List V → List DV → Prop
  | nil : VL K F [] []
  | cons {v : V} {d : DV} {vs : List V} {ds : List DV} : VOk K F v d → VL K F vs ds → VL K F (v :: vs) (d :: ds)
inductive VK' (K : PySem.W.Frag) (F : Hp) : List (Key × V) → List (Key × DV) → Prop
  | nil : VK' K F [] []
  | cons {k : Key} {v : V} {d : DV} {vs : List (Key × V)} {ds : List (Key × DV)} : VOk K F v d → VK' K F vs ds → VK' K F ((k, v) :: vs) ((k, d) :: ds)
inductive VF (K : PySem.W.Frag) (F : Hp) : List (Str × V) → List (Str × DV) → Prop
  | nil : VF K F [] []
  | cons {k : Str} {v : V} {d : DV} {vs : List (Str × V)} {ds : List (Str × DV)} : VOk K F v d → VF K F vs ds → VF K F ((k, v) :: vs) ((k, d) :: ds)
inductive OOk (K : PySem.W.Frag) (F : Hp) : HO → MO → Prop
  | lst {vs : List V} {xs : List DV} : VL K F vs xs → OOk K F (.lst vs) (.lst xs)
  | tup {vs : List V} {xs : List DV} : VL K F vs xs → OOk K F (.tup vs) (.tup xs)
  | dct {vs : List (Key × V)} {xs : List (Key × DV)} : VK' K F vs xs → OOk K F (.dK vs) (.dct xs)
  | ins {C dx : Addr} {fs : List (Str × V)} {gs : List (Str × DV)} : VF K F fs gs → OOk K F (.ins C dx fs) (.ins C dx gs)
inductive EnvOk (K : PySem.W.Frag) (F : Hp) : St → Slots → Prop
  | nil : EnvOk K F [] []
  | cons {o : Option V} {x : Str} {d : DV} {σ : St} {ds : Slots} : SOk K F o d → EnvOk K F σ ds → EnvOk K F (o :: σ) ((x, d) :: ds)

section
variable {K : PySem.W.Frag} {F F' : Hp}
theorem VOk.mono (s : Same F F') {v : V} : ∀ {d : DV}, VOk K F v d → VOk K F' v d
  | .no, _ => trivial
  | .d _, h => Rp.mono s h
  | .m _, h => h
theorem SOk.mono (s : Same F F') {o : Option V} : ∀ {d : DV}, SOk K F o d → SOk K F' o d
  | .no, _ => trivial
  | .d _, ⟨v, e, h⟩ => ⟨v, e, Rp.mono s h⟩
  | .m _, h => h
theorem VL.mono (s : Same F F') : ∀ {vs : List V} {ds : List DV}, VL K F vs ds → VL K F' vs ds
  | _, _, .nil => .nil
  | _, _, .cons h r => .cons (h.mono s) (VL.mono s r)
theorem VK'.mono (s : Same F F') : ∀ {vs : List (Key × V)} {ds : List (Key × DV)}, VK' K F vs ds → VK' K F' vs ds
  | _, _, .nil => .nil
  | _, _, .cons h r => .cons (h.mono s) (VK'.mono s r)
theorem VF.mono (s : Same F F') : ∀ {vs : List (Str × V)} {ds : List (Str × DV)}, VF K F vs ds → VF K F' vs ds
  | _, _, .nil => .nil
  | _, _, .cons h r => .cons (h.mono s) (VF.mono s r)
theorem OOk.mono (s : Same F F') {o : HO} {m : MO} (h : OOk K F o m) : OOk K F' o m := by
  cases h with
  | lst h => exact .lst (VL.mono s h)
  | tup h => exact .tup (VL.mono s h)
  | dct h => exact .dct (VK'.mono s h)
  | ins h => exact .ins (VF.mono s h)
theorem EnvOk.mono (s : Same F F') : ∀ {σ : St} {ds : Slots}, EnvOk K F σ ds → EnvOk K F' σ ds
  | _, _, .nil => .nil
  | _, _, .cons h r => .cons (h.mono s) (EnvOk.mono s r)
theorem EnvOk.len : ∀ {σ : St} {ds : Slots}, EnvOk K F σ ds → σ.length = ds.length
  | _, _, .nil => rfl
  | _, _, .cons _ r => congrArg (· + 1) (EnvOk.len r)
theorem SOk.of {v : V} : ∀ {d : DV}, VOk K F v d → SOk K F (some v) d
  | .no, _ => trivial
  | .d _, h => ⟨v, rfl, h⟩
  | .m _, h => ⟨v, rfl, h⟩
theorem VL.len : ∀ {vs : List V} {ds : List DV}, VL K F vs ds → vs.length = ds.length
  | _, _, .nil => rfl
  | _, _, .cons _ r => congrArg (· + 1) (VL.len r)
theorem VL.get : ∀ {vs : List V} {ds : List DV} {i : Nat} {d : DV}, VL K F vs ds → ds[i]? = some d → ∃ v, vs[i]? = some v ∧ VOk K F v d
  | _, _, _, _, .nil, e => by simp at e
  | _, _, 0, _, .cons h _, e => by
    have e' := Option.some.inj e
    subst e'
    exact ⟨_, rfl, h⟩
  | _, _, i + 1, d, .cons _ r, e => by
    obtain ⟨v, h1, h2⟩ := VL.get (i := i) (d := d) r (by simpa using e)
    exact ⟨v, by simpa using h1, h2⟩
theorem VL.append : ∀ {vs ws : List V} {ds es : List DV}, VL K F vs ds → VL K F ws es → VL K F (vs ++ ws) (ds ++ es)
  | _, _, _, _, .nil, s => s
  | _, _, _, _, .cons h r, s => .cons h (VL.append r s)
theorem VL.of_data : ∀ {vs : List V} {ds : List Dat}, RpL K F vs ds → VL K F vs (ds.map .d)
  | _, _, .nil => .nil
  | _, _, .cons h r => .cons h (VL.of_data r)
theorem VL.to_data : ∀ {ds : List Dat} {vs : List V}, VL K F vs (ds.map .d) → RpL K F vs ds
  | [], _, h => by
    cases h
    exact .nil
  | d :: ds, _, h => by
    cases h with
    | cons a r => exact .cons a (VL.to_data r)
theorem VL.set {v : V} {d : DV} (h : VOk K F v d) : ∀ {vs : List V} {ds : List DV} (n : Nat), VL K F vs ds → VL K F (vs.set n v) (ds.set n d)
  | _, _, _, .nil => .nil
  | _, _, 0, .cons _ r => .cons h r
  | _, _, n + 1, .cons g r => .cons g (VL.set h n r)
end

/-! ### looking a name up, storing a name: by places -/
inductive Lk : Slots → Str → DV → Nat → Prop
  | here {x : Str} {v : DV} {r : Slots} : Lk ((x, v) :: r) x v 0
  | there {x y : Str} {v w : DV} {r : Slots} {i : Nat} : Lk r x v i → Lk ((y, w) :: r) x v (i + 1)
inductive Up : Slots → Str → DV → Slots → Nat → Prop
  | here {x : Str} {v w : DV} {r : Slots} : Up ((x, w) :: r) x v ((x, v) :: r) 0
  | there {x y : Str} {v w : DV} {r s : Slots} {i : Nat} : Up r x v s i → Up ((y, w) :: r) x v ((y, w) :: s) (i + 1)
theorem Lk.name : ∀ {ds : Slots} {x : Str} {v : DV} {i : Nat}, Lk ds x v i → (ds.map (·.1))[i]? = some x
  | _, _, _, _, .here => rfl
  | _, _, _, _, .there h => by
    rw [List.map_cons, List.getElem?_cons_succ]
    exact h.name
theorem Up.name : ∀ {ds es : Slots} {x : Str} {v : DV} {i : Nat}, Up ds x v es i → (ds.map (·.1))[i]? = some x
  | _, _, _, _, _, .here => rfl
  | _, _, _, _, _, .there h => by
    rw [List.map_cons, List.getElem?_cons_succ]
    exact h.name
theorem Up.names : ∀ {ds es : Slots} {x : Str} {v : DV} {i : Nat}, Up ds x v es i → es.map (·.1) = ds.map (·.1)
  | _, _, _, _, _, .here => rfl
  | _, _, _, _, _, .there h => by
    rw [List.map_cons, List.map_cons, h.names]
section
variable {K : PySem.W.Frag} {F : Hp}
theorem Lk.get : ∀ {σ : St} {ds : Slots} {x : Str} {v : DV} {i : Nat}, Lk ds x v i → EnvOk K F σ ds → ∃ o, σ[i]? = some o ∧ SOk K F o v
  | _, _, _, _, _, .here, .cons h _ => ⟨_, rfl, h⟩
  | _, _, _, _, _, .there l, .cons _ r => by
    obtain ⟨o, e, h⟩ := l.get r
    exact ⟨o, by rw [List.getElem?_cons_succ]; exact e, h⟩
theorem Up.set : ∀ {σ : St} {ds es : Slots} {x : Str} {v : DV} {i : Nat} {u : V}, Up ds x v es i → EnvOk K F σ ds → VOk K F u v → EnvOk K F (σ.set i (some u)) es
  | _, _, _, _, _, _, _, .here, .cons _ r, h => .cons (.of h) r
  | _, _, _, _, _, _, _, .there l, .cons g r, h => by
    rw [List.set_cons_succ]
    exact .cons g (l.set r h)
theorem Up.setNone : ∀ {σ : St} {ds es : Slots} {x : Str} {i : Nat}, Up ds x .no es i → EnvOk K F σ ds → EnvOk K F (σ.set i none) es
  | _, _, _, _, _, .here, .cons _ r => .cons trivial r
  | _, _, _, _, _, .there l, .cons g r => by
    rw [List.set_cons_succ]
    exact .cons g (l.setNone r)
end

/-! ### the state: F0, H0 at the def's entry; F frozen, H now; S: what the def may change of what stood -/
structure In (K : PySem.W.Frag) (S : Addr → Prop) (F0 H0 F H : Hp) (M : Mem) (σ : St) (ds : Slots) : Prop where
  env : EnvOk K F σ ds
  ff : Same F0 F
  fh : Same F H
  new : ∀ b o, F b = some o → F0 b = none → H0 b = none
  keep : ∀ b o, H0 b = some o → ¬ S b → H b = some o
  there : ∀ b o, H0 b = some o → ∃ u, H b = some u
  mem : ∀ e ∈ M, F e.1 = none ∧ ∃ o, H e.1 = some o ∧ OOk K F o e.2
  own : ∀ e ∈ M, H0 e.1 = none ∨ S e.1
  nd : (M.map (·.1)).Nodup

/-- what a step that changes nothing of ours leaves -/
structure Ext (F H F' H' : Hp) : Prop where
  ff : Same F F'
  hh : Same H H'
  fh : Same F' H'
  new : ∀ b o, F' b = some o → F b = none → H b = none
theorem Ext.refl {F H : Hp} (h : Same F H) : Ext F H F H := ⟨.refl _, .refl _, h, fun b o e n => by rw [n] at e; cases e⟩
/-- a new object, at once frozen -/
theorem Ext.lay {F H : Hp} {p : Addr} (o : HO) (h : Same F H) (n : H p = none) : Ext F H (upd F p o) (upd H p o) := by
  have nf : F p = none := h.free n
  refine ⟨fun b u e => ?_, fun b u e => ?_, fun b u e => ?_, fun b u e f => ?_⟩
  · rw [upd_ne (ne_of_none e nf)]; exact e
  · rw [upd_ne (ne_of_none e n)]; exact e
  · by_cases hb : b = p
    · subst hb
      rw [upd_same] at e ⊢
      exact e
    · rw [upd_ne hb] at e ⊢
      exact h b u e
  · by_cases hb : b = p
    · rw [hb]; exact n
    · rw [upd_ne hb, f] at e
      cases e
section
variable {K : PySem.W.Frag} {S : Addr → Prop} {F0 H0 F H F' H' : Hp} {M M' : Mem} {σ σ' : St} {ds ds' : Slots}
theorem In.ext (I : In K S F0 H0 F H M σ ds) (x : Ext F H F' H') : In K S F0 H0 F' H' M σ ds where
  env := I.env.mono x.ff
  ff := I.ff.trans x.ff
  fh := x.fh
  new := fun b o e n => by
    cases q : F b with
    | some u => exact I.new b u q n
    | none =>
      have z := x.new b o e q
      cases w : H0 b with
      | none => rfl
      | some u =>
        obtain ⟨u', hu⟩ := I.there b u w
        rw [hu] at z
        cases z
  keep := fun b o e n => x.hh b o (I.keep b o e n)
  there := fun b o e => by
    obtain ⟨u, hu⟩ := I.there b o e
    exact ⟨u, x.hh b u hu⟩
  mem := fun e he => by
    obtain ⟨h1, o, h2, h3⟩ := I.mem e he
    refine ⟨?_, o, x.hh _ _ h2, h3.mono x.ff⟩
    cases q : F' e.1 with
    | none => rfl
    | some u =>
      have z := x.new _ u q h1
      rw [h2] at z
      cases z
  own := I.own
  nd := I.nd
theorem In.slots (I : In K S F0 H0 F H M σ ds) (e : EnvOk K F σ' ds') : In K S F0 H0 F H M σ' ds' := ⟨e, I.ff, I.fh, I.new, I.keep, I.there, I.mem, I.own, I.nd⟩
/-- the entry of a def -/
theorem In.start (fh : Same F H) (e : EnvOk K F σ ds) (hm : ∀ e ∈ M, F e.1 = none ∧ ∃ o, H e.1 = some o ∧ OOk K F o e.2) (hs : ∀ e ∈ M, S e.1) (nd : (M.map (·.1)).Nodup) : In K S F H F H M σ ds :=
  ⟨e, .refl _, fh, (fun b o a n => by rw [n] at a; cases a), fun b o a _ => a, fun b o a => ⟨o, a⟩, hm, fun e he => .inr (hs e he), nd⟩
theorem In.start0 (fh : Same F H) (e : EnvOk K F σ ds) : In K S F H F H [] σ ds := .start fh e (fun e he => absurd he (by simp)) (fun e he => absurd he (by simp)) List.nodup_nil
/-- a def that changes nothing of what stood -/
theorem In.out (I : In K (fun _ => False) F0 H0 F H M σ ds) : Ext F0 H0 F H := ⟨I.ff, fun b o e => I.keep b o e (fun z => z), I.fh, I.new⟩
/-- a new thing that may change -/
theorem In.newM {p : Addr} {o : HO} {m : MO} (I : In K S F0 H0 F H M σ ds) (n : H p = none) (h : OOk K F o m) : In K S F0 H0 F (upd H p o) (M ++ [(p, m)]) σ ds := by
  have nf : F p = none := I.fh.free n
  have n0 : H0 p = none := by
    cases q : H0 p with
    | none => rfl
    | some u =>
      obtain ⟨u', hu⟩ := I.there p u q
      rw [n] at hu
      cases hu
  refine ⟨I.env, I.ff, fun b u e => ?_, I.new, fun b u e hs => ?_, fun b u e => ?_, fun e he => ?_, fun e he => ?_, ?_⟩
  · rw [upd_ne (ne_of_none e nf)]; exact I.fh b u e
  · rw [upd_ne (ne_of_none e n0)]; exact I.keep b u e hs
  · rw [upd_ne (ne_of_none e n0)]; exact I.there b u e
  · rcases List.mem_append.mp he with he | he
    · obtain ⟨h1, u, h2, h3⟩ := I.mem e he
      exact ⟨h1, u, by rw [upd_ne (ne_of_none h2 n)]; exact h2, h3⟩
    · have e' : e = (p, m) := List.mem_singleton.mp he
      subst e'
      exact ⟨nf, o, upd_same, h⟩
  · rcases List.mem_append.mp he with he | he
    · exact I.own e he
    · have e' : e = (p, m) := List.mem_singleton.mp he
      subst e'
      exact .inl n0
  · rw [List.map_append]
    refine List.nodup_append.mpr ⟨I.nd, by simp, fun a ha b hb => ?_⟩
    obtain ⟨e, he, rfl⟩ := List.mem_map.mp ha
    obtain ⟨_, u, h2, _⟩ := I.mem e he
    have e' : b = p := by simpa using hb
    rw [e']
    exact ne_of_none h2 n
/-- a thing that may change, changed -/
theorem In.setM {i : Nat} {p : Addr} {o : HO} {m m' : MO} (I : In K S F0 H0 F H M σ ds) (hi : M[i]? = some (p, m)) (h : OOk K F o m') : In K S F0 H0 F (upd H p o) (M.set i (p, m')) σ ds := by
  have hmem : (p, m) ∈ M := List.mem_of_getElem? hi
  obtain ⟨nf, u0, hu0, _⟩ := I.mem _ hmem
  have hlt : i < M.length := (List.getElem?_eq_some_iff.mp hi).1
  have keys : (M.set i (p, m')).map (·.1) = M.map (·.1) := by
    rw [List.map_set]
    refine List.ext_getElem? fun j => ?_
    by_cases hj : i = j
    · subst hj
      rw [List.getElem?_set_self (by simpa using hlt), List.getElem?_map, hi]
      rfl
    · rw [List.getElem?_set_ne hj]
  refine ⟨I.env, I.ff, fun b u e => ?_, I.new, fun b u e hs => ?_, fun b u e => ?_, fun e he => ?_, fun e he => ?_, by rw [keys]; exact I.nd⟩
  · rw [upd_ne (ne_of_none e nf)]; exact I.fh b u e
  · have nb : b ≠ p := by
      intro z
      subst z
      rcases I.own _ hmem with q | q
      · rw [show H0 b = none from q] at e; cases e
      · exact hs q
    rw [upd_ne nb]; exact I.keep b u e hs
  · by_cases nb : b = p
    · subst nb; exact ⟨o, upd_same⟩
    · rw [upd_ne nb]; exact I.there b u e
  · obtain ⟨j, hj, ej⟩ := List.mem_iff_getElem.mp he
    by_cases hij : i = j
    · subst hij
      rw [List.getElem_set_self] at ej
      subst ej
      exact ⟨nf, o, upd_same, h⟩
    · rw [List.getElem_set_ne hij] at ej
      have hj' : j < M.length := by simpa using hj
      have me : e ∈ M := ej ▸ List.getElem_mem hj'
      obtain ⟨h1, u, h2, h3⟩ := I.mem e me
      have ne : e.1 ≠ p := by
        intro z
        have a1 : (M.map (·.1))[i]? = some p := by rw [List.getElem?_map, hi]; rfl
        have a2 : (M.map (·.1))[j]? = some p := by
          rw [List.getElem?_map, List.getElem?_eq_getElem hj', ej, ← z]
          rfl
        exact hij (nd_ix I.nd a1 a2)
      exact ⟨h1, u, by rw [upd_ne ne]; exact h2, h3⟩
  · have k : e.1 ∈ (M.set i (p, m')).map (·.1) := List.mem_map.mpr ⟨e, he, rfl⟩
    rw [keys] at k
    obtain ⟨e2, he2, q⟩ := List.mem_map.mp k
    rw [← q]
    exact I.own e2 he2
/-- forgetting a thing that may change -/
theorem In.dropM (I : In K S F0 H0 F H M σ ds) (i : Nat) : In K S F0 H0 F H (M.eraseIdx i) σ ds :=
  ⟨I.env, I.ff, I.fh, I.new, I.keep, I.there, fun e he => I.mem e (List.mem_of_mem_eraseIdx he), fun e he => I.own e (List.mem_of_mem_eraseIdx he), I.nd.sublist ((List.eraseIdx_sublist M i).map _)⟩
/-- a thing of ours that won't change any more -/
theorem In.freeze {i : Nat} {p : Addr} {m : MO} (I : In K S F0 H0 F H M σ ds) (hi : M[i]? = some (p, m)) (hn : ¬ S p) :
    ∃ o, H p = some o ∧ OOk K F o m ∧ In K S F0 H0 (upd F p o) H (M.eraseIdx i) σ ds := by
  have hmem : (p, m) ∈ M := List.mem_of_getElem? hi
  obtain ⟨nf, o, ho, hm⟩ := I.mem _ hmem
  have n0 : H0 p = none := (I.own _ hmem).resolve_right hn
  have sF : Same F (upd F p o) := fun b u e => by rw [upd_ne (ne_of_none e nf)]; exact e
  refine ⟨o, ho, hm, I.env.mono sF, I.ff.trans sF, fun b u e => ?_, fun b u e f => ?_, I.keep, I.there, fun e he => ?_, fun e he => I.own e (List.mem_of_mem_eraseIdx he), I.nd.sublist ((List.eraseIdx_sublist M i).map _)⟩
  · by_cases hb : b = p
    · subst hb
      rw [upd_same] at e
      cases e
      exact ho
    · rw [upd_ne hb] at e
      exact I.fh b u e
  · by_cases hb : b = p
    · subst hb
      exact n0
    · rw [upd_ne hb] at e
      exact I.new b u e f
  · have me := List.mem_of_mem_eraseIdx he
    obtain ⟨h1, u, h2, h3⟩ := I.mem e me
    obtain ⟨j, hj, ej⟩ := List.mem_eraseIdx_iff_getElem?.mp he
    refine ⟨?_, u, h2, h3.mono sF⟩
    have ne : e.1 ≠ p := by
      intro z
      have a1 : (M.map (·.1))[i]? = some p := by rw [List.getElem?_map, hi]; rfl
      have a2 : (M.map (·.1))[j]? = some p := by rw [List.getElem?_map, ej, ← z] <;> rfl
      exact hj (nd_ix I.nd a2 a1)
    rw [upd_ne ne]
    exact h1
end
end CS

/-! CsCalc: what expressions and statements do, told by data alone (HE, HT, HA, HS, HSs). -/
namespace CS
open PySem L2

/-! ### readings -/
def We (K : PySem.W.Frag) (W : WX) (te : TE) (ds : Slots) (M : Mem) (R : DV → Mem → Prop) (Xp : Value → Mem → Prop) : Prop :=
  ∀ (S : Addr → Prop) (F0 H0 F H : Hp) (σ : St), In K S F0 H0 F H M σ ds → ∀ Q : VK,
    (∀ v F' H' M' dv, Same F F' → In K S F0 H0 F' H' M' σ ds → VOk K F' v dv → R dv M' → Q v H') →
    (∀ cls F' H' M', Same F F' → In K S F0 H0 F' H' M' σ ds → Xp cls M' → W cls none σ H') → te σ H Q
def Wt (K : PySem.W.Frag) (W : WX) (tt : TT) (ds : Slots) (M : Mem) (R : Bool → Mem → Prop) (Xp : Value → Mem → Prop) : Prop :=
  ∀ (S : Addr → Prop) (F0 H0 F H : Hp) (σ : St), In K S F0 H0 F H M σ ds → ∀ Q : Bool → Hp → Prop,
    (∀ b F' H' M', Same F F' → In K S F0 H0 F' H' M' σ ds → R b M' → Q b H') →
    (∀ cls F' H' M', Same F F' → In K S F0 H0 F' H' M' σ ds → Xp cls M' → W cls none σ H') → tt σ H Q
def Wa (K : PySem.W.Frag) (W : WX) (ta : TA) (ds : Slots) (M : Mem) (R : List DV → Mem → Prop) (Xp : Value → Mem → Prop) : Prop :=
  ∀ (S : Addr → Prop) (F0 H0 F H : Hp) (σ : St), In K S F0 H0 F H M σ ds → ∀ Q : List V → Hp → Prop,
    (∀ vs F' H' M' dvs, Same F F' → In K S F0 H0 F' H' M' σ ds → VL K F' vs dvs → R dvs M' → Q vs H') →
    (∀ cls F' H' M', Same F F' → In K S F0 H0 F' H' M' σ ds → Xp cls M' → W cls none σ H') → ta σ H Q
/-- what is wanted behind a statement: going on, handing back, break, continue, an exception -/
structure Po where
  n : Slots → Mem → Prop
  r : DV → Mem → Prop
  b : Slots → Mem → Prop := fun _ _ => False
  c : Slots → Mem → Prop := fun _ _ => False
  x : Value → Slots → Mem → Prop := fun _ _ _ => False
def Ws (K : PySem.W.Frag) (W : WX) (t : TS) (ds : Slots) (M : Mem) (P : Po) : Prop :=
  ∀ (S : Addr → Prop) (F0 H0 F H : Hp) (σ : St) (D : Ends), In K S F0 H0 F H M σ ds →
    (∀ F' H' M' σ' ds', Same F F' → In K S F0 H0 F' H' M' σ' ds' → ds'.map (·.1) = ds.map (·.1) → P.n ds' M' → D.nx σ' H') →
    (∀ v F' H' M' σ' ds' dv, Same F F' → In K S F0 H0 F' H' M' σ' ds' → VOk K F' v dv → P.r dv M' → D.rt v H') →
    (∀ F' H' M' σ' ds', Same F F' → In K S F0 H0 F' H' M' σ' ds' → ds'.map (·.1) = ds.map (·.1) → P.b ds' M' → D.bk σ' H') →
    (∀ F' H' M' σ' ds', Same F F' → In K S F0 H0 F' H' M' σ' ds' → ds'.map (·.1) = ds.map (·.1) → P.c ds' M' → D.ct σ' H') →
    (∀ cls F' H' M' σ' ds', Same F F' → In K S F0 H0 F' H' M' σ' ds' → ds'.map (·.1) = ds.map (·.1) → P.x cls ds' M' → W cls none σ' H') → t D σ H

/-- the readings that ask just what is wanted -/
def tE (X : Cx) (e : Expr) : TE := fun σ H Q => ∀ pins s, Inv X pins σ H s → wpAny (model X.prog X.w) X.A (eval e X.env) (EP X pins σ Q) X.xe s
def tT (X : Cx) (e : Expr) : TT := fun σ H Q => ∀ pins s, Inv X pins σ H s → wpAny (model X.prog X.w) X.A (isTrue e X.env (eval e X.env)) (TP X pins σ Q) X.xe s
def tA (X : Cx) (es : List Expr) : TA := fun σ H Q => ∀ pos pins s, Inv X pins σ H s → wpAny (model X.prog X.w) X.A (spliced (backTo pos (starEach es X.env))) (AP X pins σ Q) X.xe s
def tS (X : Cx) (st : Stmt) : TS := fun D σ H => ∀ pins s, Inv X pins σ H s → wpAny (model X.prog X.w) X.A (exec st X.env) (SP X pins D) X.xe s
def tSs (X : Cx) (st : List Stmt) : TS := fun D σ H => ∀ pins s, Inv X pins σ H s → wpAny (model X.prog X.w) X.A (execs st X.env) (SP X pins D) X.xe s
theorem pe_t (X : Cx) (e : Expr) : PE X e (tE X e) := ⟨fun pins s σ H Q I h => h pins s I⟩
theorem pt_t (X : Cx) (e : Expr) : PT X e (tT X e) := ⟨fun pins s σ H Q I h => h pins s I⟩
theorem pa_t (X : Cx) (es : List Expr) : PA X es (tA X es) := ⟨fun pos pins s σ H Q I h => h pos pins s I⟩
theorem ps_t (X : Cx) (st : Stmt) : PS X st (tS X st) := ⟨fun pins s σ H D I h => h pins s I⟩
theorem pss_t (X : Cx) (st : List Stmt) : PSs X st (tSs X st) := ⟨fun pins s σ H D I h => h pins s I⟩

/-! ### the judgements -/
def HE (X : Cx) (W : WX) (e : Expr) (ds : Slots) (M : Mem) (R : DV → Mem → Prop) (Xp : Value → Mem → Prop) : Prop := X.N = ds.map (·.1) → We X.K W (tE X e) ds M R Xp
def HT (X : Cx) (W : WX) (e : Expr) (ds : Slots) (M : Mem) (R : Bool → Mem → Prop) (Xp : Value → Mem → Prop) : Prop := X.N = ds.map (·.1) → Wt X.K W (tT X e) ds M R Xp
def HA (X : Cx) (W : WX) (es : List Expr) (ds : Slots) (M : Mem) (R : List DV → Mem → Prop) (Xp : Value → Mem → Prop) : Prop := X.N = ds.map (·.1) → Wa X.K W (tA X es) ds M R Xp
def HS (X : Cx) (W : WX) (st : Stmt) (ds : Slots) (M : Mem) (P : Po) : Prop := X.N = ds.map (·.1) → Ws X.K W (tS X st) ds M P
def HSs (X : Cx) (W : WX) (st : List Stmt) (ds : Slots) (M : Mem) (P : Po) : Prop := X.N = ds.map (·.1) → Ws X.K W (tSs X st) ds M P

section
variable {X : Cx} {W : WX} {e a b : Expr} {es : List Expr} {ds : Slots} {M : Mem} {R : DV → Mem → Prop} {Xp : Value → Mem → Prop} {pos : Pos} {P : Po}
theorem he_of {t : TE} (h : PE X e t) (w : X.N = ds.map (·.1) → We X.K W t ds M R Xp) : HE X W e ds M R Xp := fun n S F0 H0 F H σ I Q q x pins s J => h.run pins s σ H Q J (w n S F0 H0 F H σ I Q q x)
theorem ht_of {t : TT} {R : Bool → Mem → Prop} (h : PT X e t) (w : X.N = ds.map (·.1) → Wt X.K W t ds M R Xp) : HT X W e ds M R Xp := fun n S F0 H0 F H σ I Q q x pins s J => h.run pins s σ H Q J (w n S F0 H0 F H σ I Q q x)
theorem ha_of {t : TA} {R : List DV → Mem → Prop} (h : PA X es t) (w : X.N = ds.map (·.1) → Wa X.K W t ds M R Xp) : HA X W es ds M R Xp := fun n S F0 H0 F H σ I Q q x pos pins s J => h.run pos pins s σ H Q J (w n S F0 H0 F H σ I Q q x)
theorem hs_of {st : Stmt} {t : TS} (h : PS X st t) (w : X.N = ds.map (·.1) → Ws X.K W t ds M P) : HS X W st ds M P := fun n S F0 H0 F H σ D I a b c d e pins s J => h.run pins s σ H D J (w n S F0 H0 F H σ D I a b c d e)
theorem hss_of {st : List Stmt} {t : TS} (h : PSs X st t) (w : X.N = ds.map (·.1) → Ws X.K W t ds M P) : HSs X W st ds M P := fun n S F0 H0 F H σ D I a b c d e pins s J => h.run pins s σ H D J (w n S F0 H0 F H σ D I a b c d e)

theorem VOk.dat {K : PySem.W.Frag} {F : Hp} {v : V} {d : Dat} (h : Rp K F v d) : VOk K F v (.d d) := h

/-! ### arguments -/
theorem ha_nil {R : List DV → Mem → Prop} (h : R [] M) : HA X W [] ds M R Xp := ha_of pa_nil fun _ S F0 H0 F H σ I Q q x => q _ F H M [] (.refl _) I .nil h
theorem ha_cons {R : List DV → Mem → Prop} (h : HE X W e ds M (fun d M1 => HA X W es ds M1 (fun dvs M2 => R (d :: dvs) M2) Xp) Xp) (hs : starEach (e :: es) X.env = (false, eval e X.env) :: starEach es X.env := by with_unfolding_all rfl) :
    HA X W (e :: es) ds M R Xp := ha_of (pa_cons (pe_t X e) (pa_t X es) hs) fun n S F0 H0 F H σ I Q q x =>
  h n S F0 H0 F H σ I _ (fun v F1 H1 M1 dv s1 I1 o1 g1 => g1 n S F0 H0 F1 H1 σ I1 _ (fun vs F2 H2 M2 dvs s2 I2 o2 g2 => q (v :: vs) F2 H2 M2 (dv :: dvs) (s1.trans s2) I2 (.cons (o1.mono s2) o2) g2)
    (fun cls F2 H2 M2 s2 I2 g2 => x cls F2 H2 M2 (s1.trans s2) I2 g2)) x

/-! ### constants, names -/
theorem he_val {v : V} {dv : DV} (hp : PE X e (tC v)) (ho : ∀ F, VOk X.K F v dv) (h : R dv M) : HE X W e ds M R Xp := he_of hp fun _ S F0 H0 F H σ I Q q x => q v F H M dv (.refl _) I (ho F) h
theorem he_int {i : Int} {j : Nat} (h : R (.d (.int i)) M) : HE X W (.Constant (.int i) j pos) ds M R Xp := he_val pe_int (dv := .d (.int i)) (fun F => VOk.dat (.int i)) h
theorem he_str {i : Str} {j : Nat} (h : R (.d (.str i)) M) : HE X W (.Constant (.str i) j pos) ds M R Xp := he_val pe_str (dv := .d (.str i)) (fun F => VOk.dat (.str i)) h
theorem he_bool {i : Bool} {j : Nat} (h : R (.d (.bl i)) M) : HE X W (.Constant (.bool i) j pos) ds M R Xp := he_val pe_bl (dv := .d (.bl i)) (fun F => VOk.dat (.bl i)) h
theorem he_none {j : Nat} (h : R (.d .non) M) : HE X W (.Constant .none j pos) ds M R Xp := he_val pe_non (dv := .d .non) (fun F => VOk.dat .non) h
theorem we_var {K : PySem.W.Frag} {W : WX} {x : Str} {dv : DV} {i : Nat} (l : Lk ds x dv i) (hd : dv ≠ .no) (h : R dv M) : We K W (tVar i) ds M R Xp := fun S F0 H0 F H σ I Q q x => by
  obtain ⟨o, e, s⟩ := l.get I.env
  cases dv with
  | no => exact absurd rfl hd
  | d y =>
    obtain ⟨v, rfl, hv⟩ := s
    exact ⟨v, e, q v F H M _ (.refl _) I hv h⟩
  | m y =>
    obtain ⟨v, rfl, hv⟩ := s
    exact ⟨v, e, q v F H M _ (.refl _) I hv h⟩
/-- what is known of the names of a context: V the names that may be read, G global ones, B built-in ones -/
structure Kx (X : Cx) (V L G B : List Str) : Prop where
  nd : X.N.Nodup
  vis : ∀ x ∈ V, Vis X.env.scope x ∧ (x == ("__debug__" : Str)) = false ∧ (x == ("__classdict__" : Str)) = false
  gl : ∀ x ∈ G, Gl X x ∧ (x == ("__debug__" : Str)) = false
  bl : ∀ x ∈ B, Gl X x ∧ X.mg x = none ∧ x ≠ "__name__" ∧ (x == ("__debug__" : Str)) = false
  st : ∀ x ∈ L, Loc X.env.scope x ∧ (X.fn x = true ∨ X.env.scope.names.lookup x = some .local)
inductive Mm : List Str → Str → Prop
  | here {x : Str} {r : List Str} : Mm (x :: r) x
  | there {x y : Str} {r : List Str} : Mm r x → Mm (y :: r) x
theorem Mm.mem : ∀ {l : List Str} {x : Str}, Mm l x → x ∈ l
  | _, _, .here => List.mem_cons_self
  | _, _, .there h => List.mem_cons_of_mem _ h.mem
theorem he_name {x : Str} {dv : DV} {i : Nat} {V L G B : List Str} (k : Kx X V L G B) (l : Lk ds x dv i) (m : Mm V x) (hd : dv ≠ .no) (h : R dv M) : HE X W (.Name x pos) ds M R Xp := fun n =>
  he_of (pe_var (i := i) (by rw [n]; exact l.name) (k.vis x m.mem).1 (k.vis x m.mem).2.1 (k.vis x m.mem).2.2) (fun _ => we_var l hd h) n
theorem he_glob {x : Str} {v : V} {dv : DV} {u : Value} {V' L G B : List Str} (k : Kx X V' L G B) (m : Mm G x) (hm : X.mg x = some u) (r : RelV v u) (ho : ∀ F, VOk X.K F v dv) (h : R dv M) : HE X W (.Name x pos) ds M R Xp :=
  he_val (pe_glob (k.gl x m.mem).1 hm r (k.gl x m.mem).2) ho h

/-! ### operators -/
def OD (K : PySem.W.Frag) (r : R2) (Rd : DV → DV → Mem → (DV → Mem → Prop) → Prop) : Prop :=
  ∀ (S : Addr → Prop) (F0 H0 F H : Hp) (M : Mem) (σ : St) (ds : Slots) (a b : DV) (v w : V) (R : DV → Mem → Prop) (Q : VK), In K S F0 H0 F H M σ ds → VOk K F v a → VOk K F w b → Rd a b M R →
    (∀ u F' H' M' dv, Same F F' → In K S F0 H0 F' H' M' σ ds → VOk K F' u dv → R dv M' → Q u H') → r v w H Q
theorem we_op {K : PySem.W.Frag} {W : WX} {r : R2} {Rd : DV → DV → Mem → (DV → Mem → Prop) → Prop} {ta tb : TE} (od : OD K r Rd) (h : We K W ta ds M (fun x M1 => We K W tb ds M1 (fun y M2 => Rd x y M2 R) Xp) Xp) :
    We K W (tOp r ta tb) ds M R Xp := fun S F0 H0 F H σ I Q q x =>
  h S F0 H0 F H σ I _ (fun v F1 H1 M1 dv s1 I1 o1 g1 => g1 S F0 H0 F1 H1 σ I1 _ (fun w F2 H2 M2 dw s2 I2 o2 g2 =>
    od S F0 H0 F2 H2 M2 σ ds dv dw v w R Q I2 (o1.mono s2) o2 g2 fun u F3 H3 M3 du s3 I3 o3 g3 => q u F3 H3 M3 du ((s1.trans s2).trans s3) I3 o3 g3)
    (fun cls F2 H2 M2 s2 I2 g2 => x cls F2 H2 M2 (s1.trans s2) I2 g2)) x
theorem we_imp {K : PySem.W.Frag} {W : WX} {te : TE} {R R' : DV → Mem → Prop} (h : We K W te ds M R Xp) (i : ∀ dv M, R dv M → R' dv M) : We K W te ds M R' Xp := fun S F0 H0 F H σ I Q q x =>
  h S F0 H0 F H σ I Q (fun v F1 H1 M1 dv s1 I1 o1 g1 => q v F1 H1 M1 dv s1 I1 o1 (i _ _ g1)) x
theorem he_imp {R R' : DV → Mem → Prop} (h : HE X W e ds M R Xp) (i : ∀ dv M, R dv M → R' dv M) : HE X W e ds M R' Xp := fun n => we_imp (h n) i
/-- two operands in a row: the inner judgement as a reading -/
theorem inner {e : Expr} {ds : Slots} {M : Mem} {R : DV → Mem → Prop} (n : X.N = ds.map (·.1)) (h : HE X W e ds M R Xp) : We X.K W (tE X e) ds M R Xp := h n
theorem he_bin {op : Operator} {r : R2} {Rd : DV → DV → Mem → (DV → Mem → Prop) → Prop} (ho : OpR X (binaryOp op) r) (od : OD X.K r Rd) (h : HE X W a ds M (fun x M1 => HE X W b ds M1 (fun y M2 => Rd x y M2 R) Xp) Xp) :
    HE X W (.BinOp a op b pos) ds M R Xp := he_of (pe_op ho (pe_t X a) (pe_t X b)) fun n => we_op od (we_imp (h n) fun _ _ g => g n)
theorem he_cmp {op : CmpOp} {r : R2} {Rd : DV → DV → Mem → (DV → Mem → Prop) → Prop} (ho : OpR X (compareOp op) r) (od : OD X.K r Rd) (h : HE X W a ds M (fun x M1 => HE X W b ds M1 (fun y M2 => Rd x y M2 R) Xp) Xp)
    (hm : behindInMarks op b = false := by with_unfolding_all rfl) : HE X W (.Compare a [op] [b] pos) ds M R Xp := he_of (pe_cmpR ho (pe_t X a) (pe_t X b) hm) fun n => we_op od (we_imp (h n) fun _ _ g => g n)
theorem OD.or {K : PySem.W.Frag} {r r' : R2} {Rd Rd' : DV → DV → Mem → (DV → Mem → Prop) → Prop} (h : OD K r Rd) (h' : OD K r' Rd') : OD K (fun x y H Q => r x y H Q ∨ r' x y H Q) (fun a b M R => Rd a b M R ∨ Rd' a b M R) :=
  fun S F0 H0 F H M σ ds a b v w R Q I oa ob g q => g.elim (fun g => .inl (h S F0 H0 F H M σ ds a b v w R Q I oa ob g q)) fun g => .inr (h' S F0 H0 F H M σ ds a b v w R Q I oa ob g q)
theorem OpR.or {f : Value → Value → Sem Value} {r r' : R2} (h : OpR X f r) (h' : OpR X f r') : OpR X f (fun x y H Q => r x y H Q ∨ r' x y H Q) := fun pins s σ H x y v u Q I rx ry q =>
  q.elim (fun q => h pins s σ H x y v u Q I rx ry q) fun q => h' pins s σ H x y v u Q I rx ry q
/-- two ints -/
def dI (C : Int → Int → Prop) (g : Int → Int → Dat) : DV → DV → Mem → (DV → Mem → Prop) → Prop := fun a b M R => ∃ i j, a = .d (.int i) ∧ b = .d (.int j) ∧ C i j ∧ R (.d (g i j)) M
def dI0 (g : Int → Int → Dat) : DV → DV → Mem → (DV → Mem → Prop) → Prop := fun a b M R => ∃ i j, a = .d (.int i) ∧ b = .d (.int j) ∧ R (.d (g i j)) M
theorem od_I {K : PySem.W.Frag} {C : Int → Int → Prop} {f : Int → Int → V} {g : Int → Int → Dat} (hg : ∀ F i j, Rp K F (f i j) (g i j)) : OD K (rI C f) (dI C g) := by
  rintro S F0 H0 F H M σ ds a b v w R Q I oa ob ⟨i, j, rfl, rfl, hc, h⟩ q
  cases oa
  cases ob
  exact ⟨i, j, rfl, rfl, hc, q _ F H M _ (.refl _) I (VOk.dat (hg F i j)) h⟩
theorem od_I0 {K : PySem.W.Frag} {f : Int → Int → V} {g : Int → Int → Dat} (hg : ∀ F i j, Rp K F (f i j) (g i j)) : OD K (rI0 f) (dI0 g) := by
  rintro S F0 H0 F H M σ ds a b v w R Q I oa ob ⟨i, j, rfl, rfl, h⟩ q
  cases oa
  cases ob
  exact ⟨i, j, rfl, rfl, q _ F H M _ (.refl _) I (VOk.dat (hg F i j)) h⟩
theorem he_sub (h : HE X W a ds M (fun x M1 => HE X W b ds M1 (fun y M2 => dI0 (fun i j => .int (i - j)) x y M2 R) Xp) Xp) : HE X W (.BinOp a .Sub b pos) ds M R Xp := he_bin op_sub (od_I0 fun F i j => .int _) h
theorem he_mul (h : HE X W a ds M (fun x M1 => HE X W b ds M1 (fun y M2 => dI CMul (fun i j => .int (i * j)) x y M2 R) Xp) Xp) : HE X W (.BinOp a .Mult b pos) ds M R Xp := he_bin op_mul (od_I fun F i j => .int _) h
theorem he_mod (h : HE X W a ds M (fun x M1 => HE X W b ds M1 (fun y M2 => dI (fun _ j => 0 < j) (fun i j => .int (i % j)) x y M2 R) Xp) Xp) : HE X W (.BinOp a .Mod b pos) ds M R Xp := he_bin op_mod (od_I fun F i j => .int _) h
theorem he_fdiv (h : HE X W a ds M (fun x M1 => HE X W b ds M1 (fun y M2 => dI CDiv (fun i j => .int (i / j)) x y M2 R) Xp) Xp) : HE X W (.BinOp a .FloorDiv b pos) ds M R Xp := he_bin op_fdiv (od_I fun F i j => .int _) h
theorem he_pow (h : HE X W a ds M (fun x M1 => HE X W b ds M1 (fun y M2 => dI CPow (fun i j => .int (i ^ j.toNat)) x y M2 R) Xp) Xp) : HE X W (.BinOp a .Pow b pos) ds M R Xp := he_bin op_pow (od_I fun F i j => .int _) h
theorem he_lt (h : HE X W a ds M (fun x M1 => HE X W b ds M1 (fun y M2 => dI0 (fun i j => .bl (decide (i < j))) x y M2 R) Xp) Xp) : HE X W (.Compare a [.Lt] [b] pos) ds M R Xp := he_cmp op_lt (od_I0 fun F i j => .bl _) h (nomark _)
theorem he_le (h : HE X W a ds M (fun x M1 => HE X W b ds M1 (fun y M2 => dI0 (fun i j => .bl (decide (i ≤ j))) x y M2 R) Xp) Xp) : HE X W (.Compare a [.LtE] [b] pos) ds M R Xp := he_cmp op_le (od_I0 fun F i j => .bl _) h (nomark _)
theorem he_gt (h : HE X W a ds M (fun x M1 => HE X W b ds M1 (fun y M2 => dI0 (fun i j => .bl (decide (j < i))) x y M2 R) Xp) Xp) : HE X W (.Compare a [.Gt] [b] pos) ds M R Xp := he_cmp op_gt (od_I0 fun F i j => .bl _) h (nomark _)
theorem he_ge (h : HE X W a ds M (fun x M1 => HE X W b ds M1 (fun y M2 => dI0 (fun i j => .bl (decide (j ≤ i))) x y M2 R) Xp) Xp) : HE X W (.Compare a [.GtE] [b] pos) ds M R Xp := he_cmp op_ge (od_I0 fun F i j => .bl _) h (nomark _)
theorem he_neg (h : HE X W a ds M (fun x M1 => ∃ i, x = .d (.int i) ∧ R (.d (.int (-i))) M1) Xp) : HE X W (.UnaryOp .USub a pos) ds M R Xp := he_of (pe_un un_neg (pe_t X a)) fun n S F0 H0 F H σ I Q q x =>
  h n S F0 H0 F H σ I _ (fun v F1 H1 M1 dv s1 I1 o1 g1 => by
    obtain ⟨i, rfl, g⟩ := g1
    cases o1
    exact ⟨i, rfl, q _ F1 H1 M1 _ s1 I1 (VOk.dat (.int _)) g⟩) x

/-! ### equality: scalars -/
def datS : Dat → Option V
  | .non => some .non
  | .bl b => some (.bl b)
  | .int i => some (.int i)
  | .str s => some (.str s)
  | _ => none
theorem datS_rp {K : PySem.W.Frag} {F : Hp} {v w : V} {d : Dat} (e : datS d = some w) (h : Rp K F v d) : v = w := by
  cases h <;> first | exact Option.some.inj e | cases e
def dEq (neg : Bool) : DV → DV → Mem → (DV → Mem → Prop) → Prop := fun a b M R => ∃ x y v w, a = .d x ∧ b = .d y ∧ datS x = some v ∧ datS y = some w ∧ scal v w = true ∧ R (.d (.bl (if neg then !decide (v = w) else decide (v = w)))) M
theorem od_eq {K : PySem.W.Frag} : OD K rEq (dEq false) := by
  rintro S F0 H0 F H M σ ds a b v w R Q I oa ob ⟨x, y, v', w', rfl, rfl, h1, h2, hs, h⟩ q
  obtain rfl := datS_rp h1 oa
  obtain rfl := datS_rp h2 ob
  exact ⟨hs, q _ F H M _ (.refl _) I (VOk.dat (.bl _)) h⟩
theorem od_ne {K : PySem.W.Frag} : OD K rNe (dEq true) := by
  rintro S F0 H0 F H M σ ds a b v w R Q I oa ob ⟨x, y, v', w', rfl, rfl, h1, h2, hs, h⟩ q
  obtain rfl := datS_rp h1 oa
  obtain rfl := datS_rp h2 ob
  exact ⟨hs, q _ F H M _ (.refl _) I (VOk.dat (.bl _)) h⟩
end
end CS

/-! CsStm: tests, blocks, statements, calls. -/
namespace CS
open PySem L2

section
variable {X : Cx} {W : WX} {e a b c : Expr} {es : List Expr} {ds : Slots} {M : Mem} {R : DV → Mem → Prop} {Xp : Value → Mem → Prop} {pos : Pos} {pn : Slots → Mem → Prop} {pr : DV → Mem → Prop} {pb pc : Slots → Mem → Prop} {px : Value → Slots → Mem → Prop}

/-! ### tests -/
/-- a test whose value is a bool -/
theorem wt_test {K : PySem.W.Frag} {t : TE} {R : Bool → Mem → Prop} (h : We K W t ds M (fun z M1 => ∃ k, z = .d (.bl k) ∧ R k M1) Xp) : Wt K W (tTest t) ds M R Xp := fun S F0 H0 F H σ I Q q x =>
  h S F0 H0 F H σ I _ (fun v F1 H1 M1 dv s1 I1 o1 g1 => by
    obtain ⟨k, rfl, g⟩ := g1
    cases o1
    exact ⟨k, rfl, q k F1 H1 M1 s1 I1 g⟩) x
theorem wt_B {K : PySem.W.Frag} {t : TE} {R : Bool → Mem → Prop} (h : We K W t ds M (fun z M1 => ∃ k, z = .d (.bl k) ∧ R k M1) Xp) : Wt K W (tB t) ds M R Xp := fun S F0 H0 F H σ I Q q x =>
  h S F0 H0 F H σ I _ (fun v F1 H1 M1 dv s1 I1 o1 g1 => by
    obtain ⟨k, rfl, g⟩ := g1
    cases o1
    exact ⟨k, rfl, q k F1 H1 M1 s1 I1 g⟩) x
theorem ht_cmp {op : CmpOp} {r : R2} {Rd : DV → DV → Mem → (DV → Mem → Prop) → Prop} {R : Bool → Mem → Prop} (ho : OpR X (compareOp op) r) (od : OD X.K r Rd)
    (h : HE X W a ds M (fun x M1 => HE X W b ds M1 (fun y M2 => Rd x y M2 (fun z M3 => ∃ k, z = .d (.bl k) ∧ R k M3)) Xp) Xp) (hm : behindInMarks op b = false := by with_unfolding_all rfl) : HT X W (.Compare a [op] [b] pos) ds M R Xp :=
  ht_of (pt_cmpR ho (pe_t X a) (pe_t X b) hm) fun n => wt_test (we_op od (we_imp (h n) fun _ _ g => g n))
/-- two ints compared, as a test -/
def tI0 (g : Int → Int → Bool) : DV → DV → Mem → (Bool → Mem → Prop) → Prop := fun a b M R => ∃ i j, a = .d (.int i) ∧ b = .d (.int j) ∧ R (g i j) M
theorem ht_cmpI {op : CmpOp} {g : Int → Int → Bool} {R : Bool → Mem → Prop} (ho : OpR X (compareOp op) (rI0 fun i j => .bl (g i j)))
    (h : HE X W a ds M (fun x M1 => HE X W b ds M1 (fun y M2 => tI0 g x y M2 R) Xp) Xp) (hm : behindInMarks op b = false) : HT X W (.Compare a [op] [b] pos) ds M R Xp :=
  ht_cmp ho (od_I0 (g := fun i j => .bl (g i j)) fun F i j => .bl _) (he_imp h fun _ _ q => he_imp q fun _ _ ⟨i, j, e1, e2, q⟩ => ⟨i, j, e1, e2, _, rfl, q⟩) hm
theorem ht_lt {R : Bool → Mem → Prop} (h : HE X W a ds M (fun x M1 => HE X W b ds M1 (fun y M2 => tI0 (fun i j => decide (i < j)) x y M2 R) Xp) Xp) : HT X W (.Compare a [.Lt] [b] pos) ds M R Xp := ht_cmpI op_lt h (nomark _)
theorem ht_le {R : Bool → Mem → Prop} (h : HE X W a ds M (fun x M1 => HE X W b ds M1 (fun y M2 => tI0 (fun i j => decide (i ≤ j)) x y M2 R) Xp) Xp) : HT X W (.Compare a [.LtE] [b] pos) ds M R Xp := ht_cmpI op_le h (nomark _)
theorem ht_gt {R : Bool → Mem → Prop} (h : HE X W a ds M (fun x M1 => HE X W b ds M1 (fun y M2 => tI0 (fun i j => decide (j < i)) x y M2 R) Xp) Xp) : HT X W (.Compare a [.Gt] [b] pos) ds M R Xp := ht_cmpI op_gt h (nomark _)
theorem ht_ge {R : Bool → Mem → Prop} (h : HE X W a ds M (fun x M1 => HE X W b ds M1 (fun y M2 => tI0 (fun i j => decide (j ≤ i)) x y M2 R) Xp) Xp) : HT X W (.Compare a [.GtE] [b] pos) ds M R Xp := ht_cmpI op_ge h (nomark _)
/-- scalars compared: what == says -/
inductive SEq : DV → DV → Bool → Prop
  | int (i j : Int) : SEq (.d (.int i)) (.d (.int j)) (decide (i = j))
  | str (s t : Str) : SEq (.d (.str s)) (.d (.str t)) (decide (s = t))
  | bl (s t : Bool) : SEq (.d (.bl s)) (.d (.bl t)) (decide (s = t))
  | is (i : Int) (t : Str) : SEq (.d (.int i)) (.d (.str t)) false
  | si (t : Str) (i : Int) : SEq (.d (.str t)) (.d (.int i)) false
theorem SEq.no {a b : DV} {k : Bool} (h : SEq a b k) (M : Mem) (neg : Bool) {R : DV → Mem → Prop} (g : R (.d (.bl (if neg then !k else k))) M) : dEq neg a b M R := by
  cases h with
  | int i j =>
    refine ⟨_, _, _, _, rfl, rfl, rfl, rfl, rfl, ?_⟩
    rw [show decide (V.int i = V.int j) = decide (i = j) from by simp]
    exact g
  | str i j =>
    refine ⟨_, _, _, _, rfl, rfl, rfl, rfl, rfl, ?_⟩
    rw [show decide (V.str i = V.str j) = decide (i = j) from by simp]
    exact g
  | bl i j =>
    refine ⟨_, _, _, _, rfl, rfl, rfl, rfl, rfl, ?_⟩
    rw [show decide (V.bl i = V.bl j) = decide (i = j) from by simp]
    exact g
  | is i t =>
    refine ⟨_, _, _, _, rfl, rfl, rfl, rfl, rfl, ?_⟩
    rw [show decide (V.int i = V.str t) = false from by simp]
    exact g
  | si t i =>
    refine ⟨_, _, _, _, rfl, rfl, rfl, rfl, rfl, ?_⟩
    rw [show decide (V.str t = V.int i) = false from by simp]
    exact g
theorem ht_eq {R : Bool → Mem → Prop} (h : HE X W a ds M (fun x M1 => HE X W b ds M1 (fun y M2 => ∃ k, SEq x y k ∧ R k M2) Xp) Xp) : HT X W (.Compare a [.Eq] [b] pos) ds M R Xp :=
  ht_cmp op_eq od_eq (he_imp h fun _ _ q => he_imp q fun _ _ ⟨k, s, q⟩ => s.no _ false ⟨_, rfl, q⟩) (nomark _)
theorem ht_ne {R : Bool → Mem → Prop} (h : HE X W a ds M (fun x M1 => HE X W b ds M1 (fun y M2 => ∃ k, SEq x y k ∧ R (!k) M2) Xp) Xp) : HT X W (.Compare a [.NotEq] [b] pos) ds M R Xp :=
  ht_cmp op_ne od_ne (he_imp h fun _ _ q => he_imp q fun _ _ ⟨k, s, q⟩ => s.no _ true ⟨_, rfl, q⟩) (nomark _)
theorem he_eq (h : HE X W a ds M (fun x M1 => HE X W b ds M1 (fun y M2 => ∃ k, SEq x y k ∧ R (.d (.bl k)) M2) Xp) Xp) : HE X W (.Compare a [.Eq] [b] pos) ds M R Xp :=
  he_cmp op_eq od_eq (he_imp h fun _ _ q => he_imp q fun _ _ ⟨k, s, q⟩ => s.no _ false q) (nomark _)
theorem he_ne (h : HE X W a ds M (fun x M1 => HE X W b ds M1 (fun y M2 => ∃ k, SEq x y k ∧ R (.d (.bl (!k))) M2) Xp) Xp) : HE X W (.Compare a [.NotEq] [b] pos) ds M R Xp :=
  he_cmp op_ne od_ne (he_imp h fun _ _ q => he_imp q fun _ _ ⟨k, s, q⟩ => s.no _ true q) (nomark _)
/-- is None -/
theorem he_isN {j : Nat} {p2 : Pos} (h : HE X W a ds M (fun x M1 => ∃ d, x = .d d ∧ R (.d (.bl (match d with | .non => true | _ => false))) M1) Xp) : HE X W (.Compare a [.Is] [.Constant .none j p2] pos) ds M R Xp :=
  he_of (pe_cmp (pc_isN (pe_t X a))) fun n S F0 H0 F H σ I Q q x => h n S F0 H0 F H σ I _ (fun v F1 H1 M1 dv s1 I1 o1 g1 => by
    obtain ⟨d, rfl, g⟩ := g1
    refine q _ F1 H1 M1 _ s1 I1 (VOk.dat (.bl _)) ?_
    cases o1 <;> exact g) x
theorem ht_val {R : Bool → Mem → Prop} (h : HE X W e ds M (fun z M1 => ∃ k, z = .d (.bl k) ∧ R k M1) Xp) (he : ∀ whole, isTrue e X.env whole = (do let v ← whole; standAt e.pos; holding [v] (truthy v)) := by intro _; with_unfolding_all rfl) : HT X W e ds M R Xp :=
  ht_of (pt_val (pe_t X e) he) fun n => wt_B (h n)
theorem ht_not {R : Bool → Mem → Prop} (h : HT X W a ds M (fun k M1 => R (!k) M1) Xp) : HT X W (.UnaryOp .Not a pos) ds M R Xp := ht_of (pt_not (pt_t X a)) fun n S F0 H0 F H σ I Q q x =>
  h n S F0 H0 F H σ I _ (fun k F1 H1 M1 s1 I1 g1 => q _ F1 H1 M1 s1 I1 g1) x
def tW (X : Cx) (e : Expr) : TT := fun σ H Q => ∀ whole pins s, Inv X pins σ H s → wpAny (model X.prog X.w) X.A (isTrue e X.env whole) (TP X pins σ Q) X.xe s
theorem pw_t (X : Cx) (e : Expr) : PW X e (tW X e) := ⟨fun whole pins s σ H Q I h => h whole pins s I⟩
/-- a chain of and, or, as a test -/
def HW (X : Cx) (W : WX) (e : Expr) (ds : Slots) (M : Mem) (R : Bool → Mem → Prop) (Xp : Value → Mem → Prop) : Prop := X.N = ds.map (·.1) → Wt X.K W (tW X e) ds M R Xp
theorem hw_of {t : TT} {R : Bool → Mem → Prop} (h : PW X e t) (w : X.N = ds.map (·.1) → Wt X.K W t ds M R Xp) : HW X W e ds M R Xp := fun n S F0 H0 F H σ I Q q x whole pins s J => h.run whole pins s σ H Q J (w n S F0 H0 F H σ I Q q x)
theorem ht_w {op : BoolOp} {R : Bool → Mem → Prop} (h : HW X W (.BoolOp op es pos) ds M R Xp) : HT X W (.BoolOp op es pos) ds M R Xp := ht_of (pw_t X _).pt h
theorem wt_imp {K : PySem.W.Frag} {t : TT} {R R' : Bool → Mem → Prop} (h : Wt K W t ds M R Xp) (i : ∀ dv M, R dv M → R' dv M) : Wt K W t ds M R' Xp := fun S F0 H0 F H σ I Q q x =>
  h S F0 H0 F H σ I Q (fun k F1 H1 M1 s1 I1 g1 => q k F1 H1 M1 s1 I1 (i _ _ g1)) x
theorem hw_and1 {R : Bool → Mem → Prop} (h : HT X W a ds M R Xp) : HW X W (.BoolOp .And [a] pos) ds M R Xp := hw_of (pw_and1 (pt_t X a)) h
theorem hw_or1 {R : Bool → Mem → Prop} (h : HT X W a ds M R Xp) : HW X W (.BoolOp .Or [a] pos) ds M R Xp := hw_of (pw_or1 (pt_t X a)) h
theorem hw_and {R : Bool → Mem → Prop} (h : HT X W a ds M (fun k M1 => if k = true then HW X W (.BoolOp .And (b :: es) pos) ds M1 R Xp else R false M1) Xp) : HW X W (.BoolOp .And (a :: b :: es) pos) ds M R Xp :=
  hw_of (pw_and (pt_t X a) (pw_t X _)) fun n S F0 H0 F H σ I Q q x => h n S F0 H0 F H σ I _ (fun k F1 H1 M1 s1 I1 g1 => by
    cases k with
    | true =>
      rw [if_pos rfl] at g1 ⊢
      exact g1 n S F0 H0 F1 H1 σ I1 Q (fun k2 F2 H2 M2 s2 I2 g2 => q k2 F2 H2 M2 (s1.trans s2) I2 g2) fun cls F2 H2 M2 s2 I2 g2 => x cls F2 H2 M2 (s1.trans s2) I2 g2
    | false =>
      rw [if_neg Bool.false_ne_true] at g1 ⊢
      exact q false F1 H1 M1 s1 I1 g1) x
theorem hw_or {R : Bool → Mem → Prop} (h : HT X W a ds M (fun k M1 => if k = true then R true M1 else HW X W (.BoolOp .Or (b :: es) pos) ds M1 R Xp) Xp) : HW X W (.BoolOp .Or (a :: b :: es) pos) ds M R Xp :=
  hw_of (pw_or (pt_t X a) (pw_t X _)) fun n S F0 H0 F H σ I Q q x => h n S F0 H0 F H σ I _ (fun k F1 H1 M1 s1 I1 g1 => by
    cases k with
    | false =>
      rw [if_neg Bool.false_ne_true] at g1 ⊢
      exact g1 n S F0 H0 F1 H1 σ I1 Q (fun k2 F2 H2 M2 s2 I2 g2 => q k2 F2 H2 M2 (s1.trans s2) I2 g2) fun cls F2 H2 M2 s2 I2 g2 => x cls F2 H2 M2 (s1.trans s2) I2 g2
    | true =>
      rw [if_pos rfl] at g1 ⊢
      exact q true F1 H1 M1 s1 I1 g1) x
/-- and, or, not as values -/
theorem he_one {op : BoolOp} (h : HE X W a ds M R Xp) : HE X W (.BoolOp op [a] pos) ds M R Xp := he_of (pe_one (pe_t X a)) h
theorem he_and (h : HE X W a ds M (fun z M1 => ∃ k, z = .d (.bl k) ∧ if k = true then HE X W (.BoolOp .And (b :: es) pos) ds M1 R Xp else R (.d (.bl false)) M1) Xp) : HE X W (.BoolOp .And (a :: b :: es) pos) ds M R Xp :=
  he_of (pe_and (pe_t X a) (pe_t X _)) fun n S F0 H0 F H σ I Q q x => h n S F0 H0 F H σ I _ (fun v F1 H1 M1 dv s1 I1 o1 g1 => by
    obtain ⟨k, rfl, g⟩ := g1
    cases o1
    refine ⟨k, rfl, ?_⟩
    cases k with
    | true =>
      rw [if_pos rfl] at g ⊢
      exact g n S F0 H0 F1 H1 σ I1 Q (fun v2 F2 H2 M2 d2 s2 I2 o2 g2 => q v2 F2 H2 M2 d2 (s1.trans s2) I2 o2 g2) fun cls F2 H2 M2 s2 I2 g2 => x cls F2 H2 M2 (s1.trans s2) I2 g2
    | false =>
      rw [if_neg Bool.false_ne_true] at g ⊢
      exact q _ F1 H1 M1 _ s1 I1 (VOk.dat (.bl _)) g) x
theorem he_or (h : HE X W a ds M (fun z M1 => ∃ k, z = .d (.bl k) ∧ if k = true then R (.d (.bl true)) M1 else HE X W (.BoolOp .Or (b :: es) pos) ds M1 R Xp) Xp) : HE X W (.BoolOp .Or (a :: b :: es) pos) ds M R Xp :=
  he_of (pe_or (pe_t X a) (pe_t X _)) fun n S F0 H0 F H σ I Q q x => h n S F0 H0 F H σ I _ (fun v F1 H1 M1 dv s1 I1 o1 g1 => by
    obtain ⟨k, rfl, g⟩ := g1
    cases o1
    refine ⟨k, rfl, ?_⟩
    cases k with
    | false =>
      rw [if_neg Bool.false_ne_true] at g ⊢
      exact g n S F0 H0 F1 H1 σ I1 Q (fun v2 F2 H2 M2 d2 s2 I2 o2 g2 => q v2 F2 H2 M2 d2 (s1.trans s2) I2 o2 g2) fun cls F2 H2 M2 s2 I2 g2 => x cls F2 H2 M2 (s1.trans s2) I2 g2
    | true =>
      rw [if_pos rfl] at g ⊢
      exact q _ F1 H1 M1 _ s1 I1 (VOk.dat (.bl _)) g) x
theorem he_not (h : HE X W a ds M (fun z M1 => ∃ k, z = .d (.bl k) ∧ R (.d (.bl (!k))) M1) Xp) : HE X W (.UnaryOp .Not a pos) ds M R Xp := he_of (pe_not (pe_t X a)) fun n S F0 H0 F H σ I Q q x =>
  h n S F0 H0 F H σ I _ (fun v F1 H1 M1 dv s1 I1 o1 g1 => by
    obtain ⟨k, rfl, g⟩ := g1
    cases o1
    exact ⟨k, rfl, q _ F1 H1 M1 _ s1 I1 (VOk.dat (.bl _)) g⟩) x

/-! ### blocks and statements -/
theorem hss_nil (h : pn ds M) : HSs X W [] ds M ⟨pn, pr, pb, pc, px⟩ := hss_of pss_nil fun _ S F0 H0 F H σ D I g _ _ _ _ => g F H M σ ds (.refl _) I rfl h
theorem hss_cons {st : Stmt} {rest : List Stmt} (h : HS X W st ds M ⟨fun ds' M' => HSs X W rest ds' M' ⟨pn, pr, pb, pc, px⟩, pr, pb, pc, px⟩) : HSs X W (st :: rest) ds M ⟨pn, pr, pb, pc, px⟩ :=
  hss_of (pss_cons (ps_t X st) (pss_t X rest)) fun n S F0 H0 F H σ D I g1 g2 g3 g4 g5 => h n S F0 H0 F H σ { D with nx := tSs X rest D } I
    (fun F1 H1 M1 σ1 ds1 s1 I1 n1 q1 => q1 (n.trans n1.symm) S F0 H0 F1 H1 σ1 D I1 (fun F2 H2 M2 σ2 ds2 s2 I2 n2 q2 => g1 F2 H2 M2 σ2 ds2 (s1.trans s2) I2 (n2.trans n1) q2)
      (fun v F2 H2 M2 σ2 ds2 dv s2 I2 o2 q2 => g2 v F2 H2 M2 σ2 ds2 dv (s1.trans s2) I2 o2 q2) (fun F2 H2 M2 σ2 ds2 s2 I2 n2 q2 => g3 F2 H2 M2 σ2 ds2 (s1.trans s2) I2 (n2.trans n1) q2)
      (fun F2 H2 M2 σ2 ds2 s2 I2 n2 q2 => g4 F2 H2 M2 σ2 ds2 (s1.trans s2) I2 (n2.trans n1) q2) fun cls F2 H2 M2 σ2 ds2 s2 I2 n2 q2 => g5 cls F2 H2 M2 σ2 ds2 (s1.trans s2) I2 (n2.trans n1) q2)
    (fun v F2 H2 M2 σ2 ds2 dv s2 I2 o2 q2 => g2 v F2 H2 M2 σ2 ds2 dv s2 I2 o2 q2) (fun F2 H2 M2 σ2 ds2 s2 I2 n2 q2 => g3 F2 H2 M2 σ2 ds2 s2 I2 n2 q2)
    (fun F2 H2 M2 σ2 ds2 s2 I2 n2 q2 => g4 F2 H2 M2 σ2 ds2 s2 I2 n2 q2) fun cls F2 H2 M2 σ2 ds2 s2 I2 n2 q2 => g5 cls F2 H2 M2 σ2 ds2 s2 I2 n2 q2
/-- x = e -/
theorem hs_set {x : Str} {dsf : DV → Slots} {i : Nat} {V L G B : List Str} {p : Pos} (k : Kx X V L G B) (m : Mm L x) (u : ∀ dv, Up ds x dv (dsf dv) i)
    (h : HE X W e ds M (fun dv M1 => pn (dsf dv) M1) (fun cls M1 => px cls ds M1)) (hs : swapsWith e (some (.Name x p)) pos.line X.env = pure false := by with_unfolding_all rfl) : HS X W (.Assign [.Name x p] e pos) ds M ⟨pn, pr, pb, pc, px⟩ := fun n =>
  hs_of (ps_set (i := i) k.nd (by rw [n]; exact (u .no).name) (k.st x m.mem).1 (pe_t X e) hs (k.st x m.mem).2) (fun _ S F0 H0 F H σ D I g1 g2 g3 g4 g5 =>
    h n S F0 H0 F H σ I _ (fun v F1 H1 M1 dv s1 I1 o1 q1 => g1 F1 H1 M1 _ (dsf dv) s1 (I1.slots ((u dv).set I1.env o1)) (u dv).names q1) fun cls F1 H1 M1 s1 I1 q1 => g5 cls F1 H1 M1 σ ds s1 I1 rfl q1) n
theorem hs_ret (h : HE X W e ds M (fun dv M1 => pr dv M1) (fun cls M1 => px cls ds M1)) : HS X W (.Return (some e) pos) ds M ⟨pn, pr, pb, pc, px⟩ := hs_of (ps_ret (pe_t X e)) fun n S F0 H0 F H σ D I g1 g2 g3 g4 g5 =>
  h n S F0 H0 F H σ I _ (fun v F1 H1 M1 dv s1 I1 o1 q1 => g2 v F1 H1 M1 σ ds dv s1 I1 o1 q1) fun cls F1 H1 M1 s1 I1 q1 => g5 cls F1 H1 M1 σ ds s1 I1 rfl q1
theorem hs_retN (h : pr (.d .non) M) : HS X W (.Return none pos) ds M ⟨pn, pr, pb, pc, px⟩ := hs_of ps_retN fun n S F0 H0 F H σ D I g1 g2 g3 g4 g5 => g2 _ F H M σ ds _ (.refl _) I (VOk.dat .non) h
theorem hs_drop (h : HE X W e ds M (fun dv M1 => pn ds M1) (fun cls M1 => px cls ds M1)) (hs : swapsWith e none pos.line X.env = pure false := by with_unfolding_all rfl) : HS X W (.Expr e pos) ds M ⟨pn, pr, pb, pc, px⟩ := hs_of (ps_expr (pe_t X e) hs) fun n S F0 H0 F H σ D I g1 g2 g3 g4 g5 =>
  h n S F0 H0 F H σ I _ (fun v F1 H1 M1 dv s1 I1 o1 q1 => g1 F1 H1 M1 σ ds s1 I1 rfl q1) fun cls F1 H1 M1 s1 I1 q1 => g5 cls F1 H1 M1 σ ds s1 I1 rfl q1
theorem hs_pass (h : pn ds M) : HS X W (.Pass pos) ds M ⟨pn, pr, pb, pc, px⟩ := hs_of ps_pass fun n S F0 H0 F H σ D I g1 g2 g3 g4 g5 => g1 F H M σ ds (.refl _) I rfl h
theorem hs_if {p q : List Stmt} (h : HT X W c ds M (fun k M1 => if k = true then HSs X W p ds M1 ⟨pn, pr, pb, pc, px⟩ else HSs X W q ds M1 ⟨pn, pr, pb, pc, px⟩) (fun cls M1 => px cls ds M1)) : HS X W (.If c p q pos) ds M ⟨pn, pr, pb, pc, px⟩ :=
  hs_of (ps_if (pt_t X c) (pss_t X p) (pss_t X q)) fun n S F0 H0 F H σ D I g1 g2 g3 g4 g5 => h n S F0 H0 F H σ I _ (fun k F1 H1 M1 s1 I1 q1 => by
    cases k with
    | true =>
      rw [if_pos rfl] at q1 ⊢
      exact q1 n S F0 H0 F1 H1 σ D I1 (fun F2 H2 M2 σ2 ds2 s2 I2 n2 q2 => g1 F2 H2 M2 σ2 ds2 (s1.trans s2) I2 n2 q2) (fun v F2 H2 M2 σ2 ds2 dv s2 I2 o2 q2 => g2 v F2 H2 M2 σ2 ds2 dv (s1.trans s2) I2 o2 q2)
        (fun F2 H2 M2 σ2 ds2 s2 I2 n2 q2 => g3 F2 H2 M2 σ2 ds2 (s1.trans s2) I2 n2 q2) (fun F2 H2 M2 σ2 ds2 s2 I2 n2 q2 => g4 F2 H2 M2 σ2 ds2 (s1.trans s2) I2 n2 q2) fun cls F2 H2 M2 σ2 ds2 s2 I2 n2 q2 => g5 cls F2 H2 M2 σ2 ds2 (s1.trans s2) I2 n2 q2
    | false =>
      rw [if_neg Bool.false_ne_true] at q1 ⊢
      exact q1 n S F0 H0 F1 H1 σ D I1 (fun F2 H2 M2 σ2 ds2 s2 I2 n2 q2 => g1 F2 H2 M2 σ2 ds2 (s1.trans s2) I2 n2 q2) (fun v F2 H2 M2 σ2 ds2 dv s2 I2 o2 q2 => g2 v F2 H2 M2 σ2 ds2 dv (s1.trans s2) I2 o2 q2)
        (fun F2 H2 M2 σ2 ds2 s2 I2 n2 q2 => g3 F2 H2 M2 σ2 ds2 (s1.trans s2) I2 n2 q2) (fun F2 H2 M2 σ2 ds2 s2 I2 n2 q2 => g4 F2 H2 M2 σ2 ds2 (s1.trans s2) I2 n2 q2) fun cls F2 H2 M2 σ2 ds2 s2 I2 n2 q2 => g5 cls F2 H2 M2 σ2 ds2 (s1.trans s2) I2 n2 q2)
    fun cls F1 H1 M1 s1 I1 q1 => g5 cls F1 H1 M1 σ ds s1 I1 rfl q1
end
end CS

/-! CsCall: defs under a room of one's own (FnR), what they promise (Oc, spD), how they are called. -/
namespace CS
open PySem L2

/-! ### room: one frame a call -/
structure Rm (d : Nat) (A : Around) : Prop where
  hd : A.handled = none
  dp : A.depth + d + 30 < recursionLimit
  un : A.units + 6 * d + 1000 < cLine
theorem Rm.mono {c d : Nat} {A : Around} (r : Rm d A) (h : c ≤ d) : Rm c A := ⟨r.hd, by have := r.dp; omega, by have := r.un; omega⟩
theorem Rm.room {d : Nat} {A : Around} (r : Rm d A) : Room 5 A := ⟨r.hd, by have := r.dp; omega, by have := r.un; omega⟩
theorem Rm.deeper {d : Nat} {A : Around} (r : Rm (d + 1) A) (env : Env) : Rm d (A.deeper env) :=
  ⟨r.hd, by have := r.dp; show A.depth + 1 + d + 30 < _; omega, by have := r.un; show A.units + 3 + 6 * d + 1000 < _; omega⟩
theorem Rm.units {d : Nat} {A : Around} (r : Rm d A) : A.units + 64 < cLine := r.room.units
theorem Rm.hu {d : Nat} {A : Around} (r : Rm d A) : A.units + 1 < cLine := hu_of r.room

/-- a def that keeps its promise where there is room for d frames -/
structure FnR (P : Program) (w : World) (K : PySem.W.Frag) (mg : Str → Option Value) (base : Heap) (CX : CXT) (d : Nat) (f : Addr) (fd : FuncData) (ps : List Str) (sp : Sp) : Prop where
  len : ∀ vs H Q E, sp vs H Q E → vs.length = ps.length
  go : ∀ (A : Around) (outer : List Env) (s : Shared) (H : Hp) (args : Args) (us : List Value) (vs : List V) (Q : VK) (E : XK), Rm d A → Env0 P w K mg base A outer s H → BindsTo s fd args (ps.zip us) →
    Vals vs us → sp vs H Q E → codeAny (model P w) A (.call (.ref f) args) (CR CX outer P w H s Q E) s
section
variable {P : Program} {w : World} {K : PySem.W.Frag} {mg : Str → Option Value} {base : Heap} {CX : CXT}
theorem FnR.mono {c d : Nat} {f : Addr} {fd : FuncData} {ps : List Str} {sp : Sp} (F : FnR P w K mg base CX c f fd ps sp) (h : c ≤ d) : FnR P w K mg base CX d f fd ps sp :=
  ⟨F.len, fun A outer s H args us vs Q E r e b v q => F.go A outer s H args us vs Q E (r.mono h) e b v q⟩
/-- the rule for a def of the text: its body under the room of one frame less -/
theorem fnr_of {x qual : Str} {st : Stmt} {f : Addr} {fd : FuncData} {N ps : List Str} {d : Nat} {sp : Sp} (T : Fun K x qual st f fd) (S : FnScope N ps (defScope st)) (len : ∀ vs H Q E, sp vs H Q E → vs.length = ps.length)
    (body : ∀ (cdv : Value) (A : Around) (outer : List Env) (s : Shared) (H : Hp) (vs : List V) (Q : VK) (E : XK), Rm d (A.deeper (PyProof.Rows.envOfC qual (defScope st) s.heap.objs.size f cdv)) → sp vs H Q E →
      ∃ t, PSs (cxOf CX P w K mg base N qual (defScope st) f cdv A outer s H E) (defBody st) t ∧ t { nx := fun _ H' => Q .non H', rt := Q } (L2.start N vs) H) : FnR P w K mg base CX (d + 1) f fd ps sp := by
  obtain ⟨oc, od, kV, doc, pm, an, cdv, ct, osl, rfl, lk, hcd⟩ := T.ex
  refine ⟨len, fun A outer s H args us vs Q E hr e0 hb rv hsp => ?_⟩
  have hl := len _ _ _ _ hsp
  have kin : K.In s.heap := e0.mod.kin.keeps fun b o e => (e0.bs b o e).1
  have nlim : s.heap.NoLimit := e0.mod.nolimit.keeps fun b o e => (e0.bs b o e).1
  have kinds : ∀ y ∈ ps.zip us, (defScope st).names.lookup y.1 = some .local ∨ ((defScope st).names.lookup y.1 = some .cell ∧ ((cellsFrom (s.heap.objs.size + 1) (defScope st).names []).lookup y.1).isSome = true) := by
    rintro ⟨n, v⟩ hy
    exact (S.par n (List.of_mem_zip hy).1).imp (fun q => q) fun q => ⟨q, PySem.W.cellsFrom_some _ _ _ (.inl q)⟩
  have hdep : A.depth < recursionLimit := by have := hr.dp; omega
  refine codeAny_call_function hdep (kin _ _ lk) rfl S.co S.gen rfl (PySem.W.codeRec_of kin hcd) (hb _ _ _ _ ?_)
  refine wpAny_newFunctionEnv_cells S.kind kinds fun env he s1 x1 => ?_
  subst he
  refine ⟨nlim.keeps x1.toInCall.keep, codeAny_func ?_⟩
  obtain ⟨t, ht, hq⟩ := body cdv A outer s H vs Q E (hr.deeper _) hsp
  have J : Inv (cxOf CX P w K mg base N qual (defScope st) f cdv A outer s H E) [] (start N vs) H s1 := inv_start S hr.hd e0 hl rv x1
  refine wpAny_mono (ht.run [] s1 (L2.start N vs) H _ J hq) (fun fl s' hs => ?_) fun _ _ z => z
  cases fl with
  | ret u =>
    obtain ⟨v, σ', H', I', r', q'⟩ := hs
    exact ⟨v, H', I'.os, I'.bare, I'.base, I'.hok, r', q'⟩
  | next =>
    obtain ⟨σ', H', I', q'⟩ := hs
    exact ⟨.non, H', I'.os, I'.bare, I'.base, I'.hok, rfl, q'⟩
  | brk =>
    obtain ⟨_, _, _, q'⟩ := hs
    exact q'.elim
  | cont =>
    obtain ⟨_, _, _, q'⟩ := hs
    exact q'.elim
end

/-- a def that a name of the module holds -/
def Def (P : Program) (w : World) (K : PySem.W.Frag) (mg : Str → Option Value) (base : Heap) (CX : CXT) (d : Nat) (x : Str) (ps : List Str) (sp : Sp) : Prop :=
  ∃ f fd, FnR P w K mg base CX d f fd ps sp ∧ mg x = some (.ref f) ∧ PySem.W.keepIn K (.ref f) = true ∧ Binds K fd ps []
theorem Def.mono {P : Program} {w : World} {K : PySem.W.Frag} {mg : Str → Option Value} {base : Heap} {CX : CXT} {c d : Nat} {x : Str} {ps : List Str} {sp : Sp} (D : Def P w K mg base CX c x ps sp) (h : c ≤ d) : Def P w K mg base CX d x ps sp := by
  obtain ⟨f, fd, G, r⟩ := D
  exact ⟨f, fd, G.mono h, r⟩
section
variable {X : Cx} {CX : CXT} {d : Nat} {f C : Addr} {fd : FuncData} {ps : List Str} {sp : Sp} {E : St → XK} {x m : Str} {p pos apos : Pos} {e o : Expr} {es : List Expr} {ta : TE} {t : TA}
theorem go_fnr {pins : List (Addr × Obj)} {σ : St} {H : Hp} {s : Shared} {Q : VK} {us : List Value} {vs : List V} (G : FnR X.prog X.w X.K X.mg X.base CX d f fd ps sp) (hr : Rm d X.A) (hb : Binds X.K fd ps []) (hx : PassesAt CX X σ (E σ))
    (J : Inv X pins σ H s) (rv : Vals vs us) (h : sp vs H Q (E σ)) : wpAny (model X.prog X.w) X.A (call (.ref f) us) (EP X pins σ Q) X.xe s := by
  have hl : us.length = ps.length := rv.length.symm.trans (G.len _ _ _ _ h)
  have hb' : BindsTo s fd ⟨us, []⟩ (ps.zip us) := by
    have z := hb s us J.kIn (by rw [List.append_nil]; exact hl)
    rw [List.append_nil] at z
    exact z
  refine wpAny_call (codeAny_mono (G.go X.A X.stack s H ⟨us, []⟩ us vs Q (E σ) hr J.env0 hb' rv h) fun res s' hq => ?_)
  match res, hq with
  | .error _, hq => exact hx pins H s _ s' J hq
  | .ok (.ret _), hq => exact J.after hq
theorem pe_callR (D : Def X.prog X.w X.K X.mg X.base CX d x ps sp) (hr : Rm d X.A) (hg : Gl X x) (hx : ∀ σ, PassesAt CX X σ (E σ)) (ha : PA X (e :: es) t) (hdb : (x == ("__debug__" : Str)) = false)
    (he : starEach (e :: es) X.env = (false, eval e X.env) :: starEach es X.env := by with_unfolding_all rfl) (hpl : (backTo pos (starEach es X.env)).any (·.1) = false := by with_unfolding_all rfl) : PE X (.Call (.Name x p) (e :: es) [] pos) (tCallS sp E t) := by
  obtain ⟨f, fd, G, hm, hk, hb⟩ := D
  refine ⟨fun pins s σ H Q J h => wpAny_Call_Name_kw (ld_glob J hg hm ?_ hdb)⟩
  refine PySem.W.callWith_K (h₀ := X.base) J.ok.mod.kin hk (thn (ha.run pos pins s σ H _ J h) fun us s1 hh => ?_) he hpl
  obtain ⟨vs, H1, J1, rv, q⟩ := hh
  exact ⟨J1.kIn, go_fnr G hr hb (hx σ) J1 rv q⟩
theorem pe_callR0 (D : Def X.prog X.w X.K X.mg X.base CX d x ps sp) (hr : Rm d X.A) (hg : Gl X x) (hx : ∀ σ, PassesAt CX X σ (E σ)) (hdb : (x == ("__debug__" : Str)) = false) : PE X (.Call (.Name x p) [] [] pos) (tCallS sp E tNil) := by
  obtain ⟨f, fd, G, hm, hk, hb⟩ := D
  refine ⟨fun pins s σ H Q J h => wpAny_Call_Name_kw (ld_glob J hg hm ?_ hdb)⟩
  exact PySem.W.callWith_K0 J.kIn hk (go_fnr (us := []) G hr hb (hx σ) J .nil h)
end

/-! ### promises over data -/
/-- a call's end: data, a new list that nobody else knows, an exception of a class -/
inductive Oc where
  | val (d : Dat) | new (xs : List Dat) | exc (cls : Value)
/-- a def over data that changes nothing of what stood: Rel tells its end -/
def spD (K : PySem.W.Frag) (Rel : List Dat → Oc → Prop) : Sp := fun vs H Q E => ∃ F as o, Same F H ∧ RpL K F vs as ∧ Rel as o ∧ match o with
  | .val d => ∀ v F' H', Ext F H F' H' → Rp K F' v d → Q v H'
  | .new xs => ∀ p us F' H', Ext F H F' H' → H p = none → F' p = none → H' p = some (.lst us) → RpL K F' us xs → Q (.ref p) H'
  | .exc c => ∀ F' H', Ext F H F' H' → E c none H'
/-- the place of a call's end in a state -/
def Fin (o : Oc) (R : DV → Mem → Prop) (Xp : Value → Mem → Prop) (M : Mem) : Prop := match o with
  | .val d => R (.d d) M
  | .new xs => ∀ p : Addr, R (.m p) (M ++ [(p, MO.lst (xs.map DV.d))])
  | .exc c => Xp c M
inductive AllD : List DV → List Dat → Prop
  | nil : AllD [] []
  | cons {d : Dat} {l : List DV} {r : List Dat} : AllD l r → AllD (.d d :: l) (d :: r)
theorem AllD.rp {K : PySem.W.Frag} {F : Hp} : ∀ {l : List DV} {r : List Dat} {vs : List V}, AllD l r → VL K F vs l → RpL K F vs r
  | _, _, _, .nil, .nil => .nil
  | _, _, _, .cons h, .cons a b => .cons a (h.rp b)
theorem In.extN {K : PySem.W.Frag} {S : Addr → Prop} {F0 H0 F H F' H' : Hp} {M : Mem} {σ : St} {ds : Slots} {p : Addr} {o : HO} {m : MO} (I : In K S F0 H0 F H M σ ds) (x : Ext F H F' H') (n : H p = none) (nf : F' p = none) (hp : H' p = some o) (ho : OOk K F' o m) :
    In K S F0 H0 F' H' (M ++ [(p, m)]) σ ds := by
  have J := I.ext x
  have n0 : H0 p = none := by
    cases q : H0 p with
    | none => rfl
    | some u =>
      obtain ⟨u', hu⟩ := I.there p u q
      rw [n] at hu
      cases hu
  refine ⟨J.env, J.ff, J.fh, J.new, J.keep, J.there, fun e he => ?_, fun e he => ?_, ?_⟩
  · rcases List.mem_append.mp he with he | he
    · exact J.mem e he
    · have e' : e = (p, m) := List.mem_singleton.mp he
      subst e'
      exact ⟨nf, o, hp, ho⟩
  · rcases List.mem_append.mp he with he | he
    · exact J.own e he
    · have e' : e = (p, m) := List.mem_singleton.mp he
      subst e'
      exact .inl n0
  · rw [List.map_append]
    refine List.nodup_append.mpr ⟨I.nd, by simp, fun a ha b hb => ?_⟩
    obtain ⟨e, he, rfl⟩ := List.mem_map.mp ha
    obtain ⟨_, u, h2, _⟩ := I.mem e he
    have e' : b = p := by simpa using hb
    rw [e']
    exact ne_of_none h2 n
/-- exceptions out of a call: none, or at the wish -/
def Lets (CX : CXT) (X : Cx) (W : WX) : Prop := ∀ σ, PassesAt CX X σ (WE W σ)
theorem lets0 {X : Cx} {W : WX} : Lets CX0 X W := fun _ _ _ _ _ _ _ h => h.elim
theorem letsX {X : Cx} {W : WX} (tk : Takes X W) : Lets (L2.CX X.prog X.w) X W := fun σ => passAt tk σ
section
variable {X : Cx} {W : WX} {CX : CXT} {d : Nat} {x : Str} {ps : List Str} {Rel : List Dat → Oc → Prop} {e : Expr} {es : List Expr} {ds : Slots} {M : Mem} {R : DV → Mem → Prop} {Xp : Value → Mem → Prop} {p pos : Pos} {V L G B : List Str}
theorem we_callD {K : PySem.W.Frag} {t : TA} (h : Wa K W t ds M (fun dvs M1 => ∃ as o, AllD dvs as ∧ Rel as o ∧ Fin o R Xp M1) Xp) : We K W (tCallS (spD K Rel) (WE W) t) ds M R Xp := fun S F0 H0 F H σ I Q q x =>
  h S F0 H0 F H σ I _ (fun vs F1 H1 M1 dvs s1 I1 o1 g1 => by
    obtain ⟨as, o, ha, hr, g⟩ := g1
    refine ⟨F1, as, o, I1.fh, ha.rp o1, hr, ?_⟩
    cases o with
    | val d => exact fun v F' H' y r => q v F' H' M1 _ (s1.trans y.ff) (I1.ext y) (VOk.dat r) g
    | new xs => exact fun p us F' H' y n nf hp r => q _ F' H' _ (.m p) (s1.trans y.ff) (I1.extN y n nf hp (.lst (VL.of_data r))) rfl (g p)
    | exc c => exact fun F' H' y => x c F' H' M1 (s1.trans y.ff) (I1.ext y) g) x
/-- f(e, ..), f a def over data -/
theorem he_call (D : Def X.prog X.w X.K X.mg X.base CX d x ps (spD X.K Rel)) (k : Kx X V L G B) (m : Mm G x) (hr : Rm d X.A) (hx : Lets CX X W) (h : HA X W (e :: es) ds M (fun dvs M1 => ∃ as o, AllD dvs as ∧ Rel as o ∧ Fin o R Xp M1) Xp)
    (he : starEach (e :: es) X.env = (false, eval e X.env) :: starEach es X.env := by with_unfolding_all rfl) (hpl : (backTo pos (starEach es X.env)).any (·.1) = false := by with_unfolding_all rfl) : HE X W (.Call (.Name x p) (e :: es) [] pos) ds M R Xp :=
  he_of (pe_callR D hr (k.gl x m.mem).1 hx (pa_t X _) (k.gl x m.mem).2 he hpl) fun n => we_callD (h n)
end

/-! ### a def over data keeps its promise -/
section
variable {P : Program} {w : World} {K : PySem.W.Frag} {mg : Str → Option Value} {base : Heap} {CX : CXT}
def zipD : List Str → List Dat → Slots
  | [], _ => []
  | x :: r, [] => (x, .no) :: zipD r []
  | x :: r, d :: s => (x, .d d) :: zipD r s
theorem zipD_names : ∀ (N : List Str) (as : List Dat), (zipD N as).map (·.1) = N
  | [], _ => rfl
  | x :: r, [] => by rw [zipD, List.map_cons, zipD_names]
  | x :: r, d :: s => by rw [zipD, List.map_cons, zipD_names]
theorem env_none {F : Hp} : ∀ (N : List Str), EnvOk K F (List.replicate N.length none) (zipD N [])
  | [] => .nil
  | x :: r => .cons trivial (env_none r)
theorem env_start {F : Hp} : ∀ (N : List Str) (vs : List V) (as : List Dat), RpL K F vs as → vs.length ≤ N.length → EnvOk K F (L2.start N vs) (zipD N as)
  | N, [], _, .nil, _ => by
    show EnvOk K F (([] : List V).map some ++ List.replicate (N.length - 0) none) (zipD N [])
    rw [List.map_nil, List.nil_append, Nat.sub_zero]
    exact env_none N
  | [], v :: vs, _, .cons _ _, hl => by simp at hl
  | x :: N, v :: vs, _, .cons h r, hl => by
    have q := env_start N vs _ r (by simpa using hl)
    have e : L2.start (x :: N) (v :: vs) = some v :: L2.start N vs := by
      unfold L2.start
      rw [List.length_cons, List.length_cons, Nat.add_sub_add_right]
      rfl
    rw [e]
    exact .cons (.of (d := .d _) h) q
/-- what is wanted of a def's body over data -/
def PoD (o : Oc) : Po where
  n := fun _ _ => o = .val .non
  r := fun dv M => match o with
    | .val d => dv = .d d
    | .new xs => ∃ (p : Addr) (i : Nat), dv = .m p ∧ M[i]? = some (p, MO.lst (xs.map DV.d))
    | .exc _ => False
  x := fun cls _ _ => o = .exc cls
theorem spD_len {Rel : List Dat → Oc → Prop} {n : Nat} (h : ∀ as o, Rel as o → as.length = n) : ∀ vs H Q E, spD K Rel vs H Q E → vs.length = n := fun vs H Q E ⟨F, as, o, _, r, hr, _⟩ => r.len.trans (h as o hr)
theorem def_ok {x qual : Str} {st : Stmt} {f : Addr} {fd : FuncData} {N ps : List Str} {d : Nat} {Rel : List Dat → Oc → Prop} (T : Fun K x qual st f fd) (S : FnScope N ps (defScope st)) (hps : ps.length ≤ N.length) (len : ∀ as o, Rel as o → as.length = ps.length)
    (body : ∀ (cdv : Value) (A : Around) (outer : List Env) (s : Shared) (H : Hp) (E : XK) (as : List Dat) (o : Oc), Rm d (A.deeper (PyProof.Rows.envOfC qual (defScope st) s.heap.objs.size f cdv)) → Rel as o →
      HSs (cxOf CX P w K mg base N qual (defScope st) f cdv A outer s H E) (fun c dd _ H => E c dd H) (defBody st) (zipD N as) [] (PoD o)) : FnR P w K mg base CX (d + 1) f fd ps (spD K Rel) := by
  refine fnr_of T S (spD_len len) fun cdv A outer s H vs Q E hr h => ⟨_, pss_t _ _, ?_⟩
  obtain ⟨F, as, o, fh, r, hrel, q⟩ := h
  have hl : vs.length ≤ N.length := by rw [r.len, len as o hrel]; exact hps
  refine body cdv A outer s H E as o hr hrel (zipD_names N as).symm (fun _ => False) F H F H _ _ (.start0 fh (env_start N vs as r hl)) ?_ ?_ ?_ ?_ ?_
  · intro F' H' M' σ' ds' s1 I1 n1 g1
    have g1 : o = .val .non := g1
    subst g1
    exact q .non F' H' I1.out .non
  · intro v F' H' M' σ' ds' dv s1 I1 o1 g1
    cases o with
    | val d =>
      have g1 : dv = .d d := g1
      subst g1
      exact q v F' H' I1.out o1
    | new xs =>
      obtain ⟨p, i, rfl, hm⟩ := g1
      have o1 : v = .ref p := o1
      subst o1
      have hmem : (p, MO.lst (xs.map DV.d)) ∈ M' := List.mem_of_getElem? hm
      obtain ⟨nf, u, hu, ou⟩ := I1.mem _ hmem
      have n0 : H p = none := (I1.own _ hmem).resolve_right (fun z => z)
      cases ou with
      | lst l => exact q p _ F' H' I1.out n0 nf hu l.to_data
    | exc c => exact (show False from g1).elim
  · exact fun _ _ _ _ _ _ _ _ g => (show False from g).elim
  · exact fun _ _ _ _ _ _ _ _ g => (show False from g).elim
  · intro cls F' H' M' σ' ds' s1 I1 n1 g1
    have g1 : o = .exc cls := g1
    subst g1
    exact q F' H' I1.out
end
end CS

/-! CsData: displays, subscripts, slices, +, built-ins, loops, comprehensions, over data. -/
namespace CS
open PySem L2

section
variable {K : PySem.W.Frag} {F F' H H' : Hp}
theorem RpL.at {vs : List V} {ds : List Dat} {i : Int} {d : Dat} (r : RpL K F vs ds) (h : atI ds i = some d) : ∃ v, atI vs i = some v ∧ Rp K F v d := by
  unfold atI at h ⊢
  rw [r.len]
  cases e : ixN ds.length i with
  | none => rw [e] at h; cases h
  | some j =>
    rw [e] at h
    exact r.get (i := j) h
theorem RpL.cut {vs : List V} {ds : List Dat} (r : RpL K F vs ds) (n m : Nat) : RpL K F ((vs.drop n).take m) ((ds.drop n).take m) := (r.drop n).take m
/-- what a subscript finds -/
inductive Ixd (M : Mem) : DV → Int → DV → Prop
  | lst {xs : List Dat} {i : Int} {d : Dat} (h : atI xs i = some d) : Ixd M (.d (.lst xs)) i (.d d)
  | tup {xs : List Dat} {i : Int} {d : Dat} (h : atI xs i = some d) : Ixd M (.d (.tup xs)) i (.d d)
  | scr {xs : List Int} {i j : Int} (h : atI xs i = some j) : Ixd M (.d (.scr xs)) i (.d (.int j))
  | str {s : Str} {i : Int} {c : Nat} (hl : s.length ≤ sizeLine) (h : atI s.cps.toList i = some c) : Ixd M (.d (.str s)) i (.d (.str ⟨#[c]⟩))
  | mu {p : Addr} {xs : List DV} {i : Int} {d : DV} {j : Nat} (hm : M[j]? = some (p, .lst xs)) (h : atI xs i = some d) : Ixd M (.m p) i d
theorem VL.at {vs : List V} {ds : List DV} {i : Int} {d : DV} (r : VL K F vs ds) (h : atI ds i = some d) : ∃ v, atI vs i = some v ∧ VOk K F v d := by
  unfold atI at h ⊢
  rw [r.len]
  cases e : ixN ds.length i with
  | none => rw [e] at h; cases h
  | some j =>
    rw [e] at h
    exact r.get (i := j) h
theorem atI_map {α β : Type} (f : α → β) {xs : List α} {i : Int} {x : α} (h : atI xs i = some x) : atI (xs.map f) i = some (f x) := by
  unfold atI at h ⊢
  rw [List.length_map]
  cases e : ixN xs.length i with
  | none => rw [e] at h; cases h
  | some j =>
    rw [e] at h
    have h : xs[j]? = some x := h
    show (xs.map f)[j]? = some (f x)
    rw [List.getElem?_map, h]
    rfl
def dIx : DV → DV → Mem → (DV → Mem → Prop) → Prop := fun a b M R => ∃ i d, b = .d (.int i) ∧ Ixd M a i d ∧ R d M
theorem od_ix : OD K (rIx K) dIx := by
  rintro S F0 H0 F H M σ ds a b v w R Q I oa ob ⟨i, d, rfl, hx, h⟩ q
  cases ob
  cases hx with
  | lst h1 =>
    cases oa with
    | lst hF r =>
      obtain ⟨u, hu, ru⟩ := r.at h1
      exact .inl ⟨_, _, i, u, rfl, rfl, .of (I.fh _ _ hF), hu, q _ F H M _ (.refl _) I (VOk.dat ru) h⟩
  | tup h1 =>
    cases oa with
    | tup hF r =>
      obtain ⟨u, hu, ru⟩ := r.at h1
      exact .inr (.inl ⟨_, _, i, u, rfl, rfl, .of (I.fh _ _ hF), hu, q _ F H M _ (.refl _) I (VOk.dat ru) h⟩)
  | scr h1 =>
    cases oa with
    | scr hF => exact .inl ⟨_, _, i, _, rfl, rfl, I.fh.seq hF, atI_map V.int h1, q _ F H M _ (.refl _) I (VOk.dat (.int _)) h⟩
  | str hl h1 =>
    cases oa
    exact .inr (.inr ⟨_, i, _, rfl, rfl, hl, h1, q _ F H M _ (.refl _) I (VOk.dat (.str _)) h⟩)
  | mu hm h1 =>
    have oa : v = .ref _ := oa
    subst oa
    obtain ⟨nf, o, ho, ok⟩ := I.mem _ (List.mem_of_getElem? hm)
    cases ok with
    | lst l =>
      obtain ⟨u, hu, ru⟩ := l.at h1
      exact .inl ⟨_, _, i, u, rfl, rfl, .of ho, hu, q _ F H M _ (.refl _) I ru h⟩
/-- a list: data, or one that may change -/
inductive LOf (M : Mem) : DV → List Dat → Prop
  | dat {xs : List Dat} : LOf M (.d (.lst xs)) xs
  | mu {p : Addr} {xs : List Dat} {i : Nat} (h : M[i]? = some (p, .lst (xs.map .d))) : LOf M (.m p) xs
theorem LOf.get {S : Addr → Prop} {F0 H0 : Hp} {M : Mem} {σ : L2.St} {ds : Slots} {v : V} {a : DV} {xs : List Dat} (I : In K S F0 H0 F H M σ ds) (o : VOk K F v a) (l : LOf M a xs) : ∃ p vs, v = .ref p ∧ H p = some (.lst vs) ∧ RpL K F vs xs := by
  cases l with
  | dat =>
    cases o with
    | lst hF r => exact ⟨_, _, rfl, I.fh _ _ hF, r⟩
  | mu h =>
    have o : v = .ref _ := o
    subst o
    obtain ⟨nf, o, ho, ok⟩ := I.mem _ (List.mem_of_getElem? h)
    cases ok with
    | lst l => exact ⟨_, _, rfl, ho, l.to_data⟩
/-- list + list -/
def dCat : DV → DV → Mem → (DV → Mem → Prop) → Prop := fun a b M R => ∃ xs ys, LOf M a xs ∧ LOf M b ys ∧ xs.length + ys.length ≤ sizeLine ∧ R (.d (.lst (xs ++ ys))) M
theorem od_cat : OD K rCat dCat := by
  rintro S F0 H0 F H M σ ds a b v w R Q I oa ob ⟨xs, ys, la, lb, hz, h⟩ q
  obtain ⟨p, vs, rfl, hp, rp⟩ := la.get I oa
  obtain ⟨p2, ws, rfl, hp2, rp2⟩ := lb.get I ob
  refine ⟨p, p2, vs, ws, rfl, rfl, hp, hp2, by rw [rp.len, rp2.len]; exact hz, fun r hr => ?_⟩
  have x := Ext.lay (.lst (vs ++ ws)) I.fh hr
  exact q _ _ _ M _ x.ff (I.ext x) (VOk.dat (.lst upd_same ((rp.append rp2).mono x.ff))) h
/-- the same, the result not frozen -/
def dCatM : DV → DV → Mem → (DV → Mem → Prop) → Prop := fun a b M R => ∃ xs ys, LOf M a xs ∧ LOf M b ys ∧ xs.length + ys.length ≤ sizeLine ∧ ∀ p, R (.m p) (M ++ [(p, .lst ((xs ++ ys).map .d))])
theorem od_catM : OD K rCat dCatM := by
  rintro S F0 H0 F H M σ ds a b v w R Q I oa ob ⟨xs, ys, la, lb, hz, h⟩ q
  obtain ⟨p, vs, rfl, hp, rp⟩ := la.get I oa
  obtain ⟨p2, ws, rfl, hp2, rp2⟩ := lb.get I ob
  refine ⟨p, p2, vs, ws, rfl, rfl, hp, hp2, by rw [rp.len, rp2.len]; exact hz, fun r hr => ?_⟩
  exact q _ F _ _ (.m r) (.refl _) (I.newM hr (.lst (VL.of_data (rp.append rp2)))) rfl (h r)
/-- tuple + tuple -/
def dCatT : DV → DV → Mem → (DV → Mem → Prop) → Prop := fun a b M R => ∃ xs ys, a = .d (.tup xs) ∧ b = .d (.tup ys) ∧ xs ≠ [] ∧ xs.length + ys.length ≤ sizeLine ∧ R (.d (.tup (xs ++ ys))) M
def dCatS : DV → DV → Mem → (DV → Mem → Prop) → Prop := fun a b M R => ∃ s t, a = .d (.str s) ∧ b = .d (.str t) ∧ s.length + t.length ≤ sizeLine ∧ R (.d (.str (s ++ t))) M
theorem od_catT : OD K (rCatT K) dCatT := by
  rintro S F0 H0 F H M σ ds a b v w R Q I oa ob ⟨xs, ys, rfl, rfl, hn, hz, h⟩ q
  cases oa with
  | tup hF r =>
    cases ob with
    | tup hF2 r2 =>
      rename_i p vs p2 ws
      refine ⟨p, p2, vs, ws, rfl, rfl, .of (I.fh _ _ hF), .of (I.fh _ _ hF2), ?_, by rw [r.len, r2.len]; exact hz, fun e => ?_, fun e r3 hr => ?_⟩
      · intro e
        have z := r.len
        rw [e] at z
        exact hn (List.length_eq_zero_iff.mp z.symm)
      · have z := r2.len
        rw [e] at z
        have e' : ys = [] := List.length_eq_zero_iff.mp z.symm
        refine q _ F H M _ (.refl _) I (VOk.dat (.tup hF ?_)) h
        rw [e', List.append_nil]
        exact r
      · have x := Ext.lay (.tup (vs ++ ws)) I.fh hr
        exact q _ _ _ M _ x.ff (I.ext x) (VOk.dat (.tup upd_same ((r.append r2).mono x.ff))) h
theorem od_catS : OD K (fun x y H Q => ∃ i j, x = .str i ∧ y = .str j ∧ i.length + j.length ≤ sizeLine ∧ Q (.str (i ++ j)) H) dCatS := by
  rintro S F0 H0 F H M σ ds a b v w R Q I oa ob ⟨s, t, rfl, rfl, hz, h⟩ q
  cases oa
  cases ob
  exact ⟨s, t, rfl, rfl, hz, q _ F H M _ (.refl _) I (VOk.dat (.str _)) h⟩
/-- list * int -/
def dRep : DV → DV → Mem → (DV → Mem → Prop) → Prop := fun a b M R => ∃ xs k, LOf M a xs ∧ b = .d (.int k) ∧ -(2 ^ 63) ≤ k ∧ k < 2 ^ 63 ∧ xs.length * k.toNat ≤ sizeLine ∧ R (.d (.lst (List.replicate k.toNat xs).flatten)) M
theorem RpL.rep {F : Hp} {vs : List V} {ds : List Dat} (r : RpL K F vs ds) : ∀ n : Nat, RpL K F (List.replicate n vs).flatten (List.replicate n ds).flatten
  | 0 => .nil
  | n + 1 => by
    rw [List.replicate_succ, List.replicate_succ, List.flatten_cons, List.flatten_cons]
    exact r.append (r.rep n)
theorem od_rep : OD K rRep dRep := by
  rintro S F0 H0 F H M σ ds a b v w R Q I oa ob ⟨xs, k, la, rfl, h1, h2, hz, h⟩ q
  obtain ⟨p, vs, rfl, hp, rp⟩ := la.get I oa
  cases ob
  refine ⟨p, k, vs, rfl, rfl, hp, h1, h2, by rw [rp.len]; exact hz, fun r hr => ?_⟩
  have x := Ext.lay (.lst (List.replicate k.toNat vs).flatten) I.fh hr
  exact q _ _ _ M _ x.ff (I.ext x) (VOk.dat (.lst upd_same ((rp.rep k.toNat).mono x.ff))) h
end

section
variable {X : Cx} {W : WX} {e a b c : Expr} {es : List Expr} {ds : Slots} {M : Mem} {R : DV → Mem → Prop} {Xp : Value → Mem → Prop} {pos p2 : Pos} {P : Po}
/-- a + b: ints, lists, tuples, texts -/
theorem he_addI (h : HE X W a ds M (fun x M1 => HE X W b ds M1 (fun y M2 => dI0 (fun i j => .int (i + j)) x y M2 R) Xp) Xp) : HE X W (.BinOp a .Add b pos) ds M R Xp := he_bin op_add (od_I0 fun F i j => .int _) h
def dAdd : DV → DV → Mem → (DV → Mem → Prop) → Prop := fun x y M R => dI0 (fun i j => .int (i + j)) x y M R ∨ dCat x y M R ∨ dCatT x y M R ∨ dCatS x y M R
theorem he_add (h : HE X W a ds M (fun x M1 => HE X W b ds M1 (fun y M2 => dAdd x y M2 R) Xp) Xp) : HE X W (.BinOp a .Add b pos) ds M R Xp :=
  he_bin (OpR.or op_add (OpR.or op_cat (OpR.or op_catT op_add_str))) ((od_I0 fun F i j => .int _).or (od_cat.or (od_catT.or od_catS))) h
theorem he_catM (h : HE X W a ds M (fun x M1 => HE X W b ds M1 (fun y M2 => dCatM x y M2 R) Xp) Xp) : HE X W (.BinOp a .Add b pos) ds M R Xp := he_bin op_cat od_catM h
theorem he_rep (h : HE X W a ds M (fun x M1 => HE X W b ds M1 (fun y M2 => dRep x y M2 R) Xp) Xp) : HE X W (.BinOp a .Mult b pos) ds M R Xp := he_bin op_rep od_rep h
/-- a[i] -/
theorem he_ix (h : HE X W a ds M (fun x M1 => HE X W b ds M1 (fun y M2 => dIx x y M2 R) Xp) Xp) (hs : PlainIx b := by intro _ _; with_unfolding_all rfl) : HE X W (.Subscript a b pos) ds M R Xp :=
  he_of (pe_ix ix_seq (pe_t X a) (pe_t X b) hs) fun n => we_op od_ix (we_imp (h n) fun _ _ g => g n)
/-- a display of data -/
theorem he_tup {k : Nat} (h : HA X W es ds M (fun dvs M1 => ∃ as, AllD dvs as ∧ as.length ≤ 1000 ∧ R (.d (.tup as)) M1) Xp) : HE X W (.Tuple es k pos) ds M R Xp := he_of (pe_tup (pa_t X es)) fun n S F0 H0 F H σ I Q q x =>
  h n S F0 H0 F H σ I _ (fun vs F1 H1 M1 dvs s1 I1 o1 g1 => by
    obtain ⟨as, ha, hl, g⟩ := g1
    have r := ha.rp o1
    refine ⟨by rw [r.len]; exact Nat.le_of_lt (small1000 hl), fun p hp => ?_⟩
    have y := Ext.lay (.tup vs) I1.fh hp
    exact q _ _ _ M1 _ (s1.trans y.ff) (I1.ext y) (VOk.dat (.tup upd_same (r.mono y.ff))) g) x
/-- a tuple that holds things that may change -/
theorem he_tupM {k : Nat} (h : HA X W es ds M (fun dvs M1 => dvs.length ≤ 1000 ∧ ∀ p, R (.m p) (M1 ++ [(p, .tup dvs)])) Xp) : HE X W (.Tuple es k pos) ds M R Xp := he_of (pe_tup (pa_t X es)) fun n S F0 H0 F H σ I Q q x =>
  h n S F0 H0 F H σ I _ (fun vs F1 H1 M1 dvs s1 I1 o1 g1 => by
    obtain ⟨hl, g⟩ := g1
    refine ⟨by rw [o1.len]; exact Nat.le_of_lt (small1000 hl), fun p hp => ?_⟩
    exact q _ F1 _ _ (.m p) s1 (I1.newM hp (.tup o1)) rfl (g p)) x
theorem he_lst (h : HA X W es ds M (fun dvs M1 => ∃ as, AllD dvs as ∧ as.length ≤ 1000 ∧ R (.d (.lst as)) M1) Xp) : HE X W (.List es pos) ds M R Xp := he_of (pe_lst (pa_t X es)) fun n S F0 H0 F H σ I Q q x =>
  h n S F0 H0 F H σ I _ (fun vs F1 H1 M1 dvs s1 I1 o1 g1 => by
    obtain ⟨as, ha, hl, g⟩ := g1
    have r := ha.rp o1
    refine ⟨by rw [r.len]; exact Nat.le_of_lt (small1000 hl), fun p hp => ?_⟩
    have y := Ext.lay (.lst vs) I1.fh hp
    exact q _ _ _ M1 _ (s1.trans y.ff) (I1.ext y) (VOk.dat (.lst upd_same (r.mono y.ff))) g) x
/-- a list display that may change -/
theorem he_lstM (h : HA X W es ds M (fun dvs M1 => dvs.length ≤ 1000 ∧ ∀ p, R (.m p) (M1 ++ [(p, .lst dvs)])) Xp) : HE X W (.List es pos) ds M R Xp := he_of (pe_lst (pa_t X es)) fun n S F0 H0 F H σ I Q q x =>
  h n S F0 H0 F H σ I _ (fun vs F1 H1 M1 dvs s1 I1 o1 g1 => by
    obtain ⟨hl, g⟩ := g1
    refine ⟨by rw [o1.len]; exact Nat.le_of_lt (small1000 hl), fun p hp => ?_⟩
    exact q _ F1 _ _ (.m p) s1 (I1.newM hp (.lst o1)) rfl (g p)) x

/-! ### slices -/
def HO' (X : Cx) (W : WX) (o : Option Expr) (ds : Slots) (M : Mem) (R : Option Int → Mem → Prop) (Xp : Value → Mem → Prop) : Prop := match o with
  | none => R none M
  | some e => HE X W e ds M (fun x M1 => ∃ i, x = .d (.int i) ∧ R (some i) M1) Xp
def tO (X : Cx) : Option Expr → TO
  | none => tNoPart
  | some e => tPart (tE X e)
theorem po_t (X : Cx) : ∀ o, PO X o (tO X o)
  | none => po_none
  | some e => po_some (pe_t X e)
theorem wo_t {o : Option Expr} {R : Option Int → Mem → Prop} (n : X.N = ds.map (·.1)) (h : HO' X W o ds M R Xp) {S : Addr → Prop} {F0 H0 F H : Hp} {σ : L2.St} (I : In X.K S F0 H0 F H M σ ds) (Q : Option Int → Hp → Prop)
    (q : ∀ i F' H' M', Same F F' → In X.K S F0 H0 F' H' M' σ ds → R i M' → Q i H') (x : ∀ cls F' H' M', Same F F' → In X.K S F0 H0 F' H' M' σ ds → Xp cls M' → W cls none σ H') : tO X o σ H Q := by
  cases o with
  | none => exact q none F H M (.refl _) I h
  | some e =>
    exact h n S F0 H0 F H σ I _ (fun v F1 H1 M1 dv s1 I1 o1 g1 => by
      obtain ⟨i, rfl, g⟩ := g1
      cases o1
      exact ⟨i, rfl, q (some i) F1 H1 M1 s1 I1 g⟩) x
/-- the items of a slice -/
def cutD (xs : List Dat) (lo hi : Option Int) : List Dat := (xs.drop (HT.sIx xs.length 0 lo)).take (HT.sIx xs.length xs.length hi - HT.sIx xs.length 0 lo)
theorem RpL.slice {K : PySem.W.Frag} {F : Hp} {vs : List V} {xs : List Dat} (r : RpL K F vs xs) (lo hi : Option Int) : RpL K F (cutV vs lo hi) (cutD xs lo hi) := by
  unfold cutV cutD
  rw [r.len]
  exact r.cut _ _
/-- what may be sliced -/
inductive Sld (M : Mem) : DV → Option Int → Option Int → Dat → Prop
  | lst {x : DV} {xs : List Dat} {lo hi : Option Int} (h : LOf M x xs) : Sld M x lo hi (.lst (cutD xs lo hi))
  | tup {xs : List Dat} {lo hi : Option Int} (h : ¬ (HT.sIx xs.length 0 lo = 0 ∧ HT.sIx xs.length xs.length hi = xs.length)) : Sld M (.d (.tup xs)) lo hi (.tup (cutD xs lo hi))
theorem he_sl {lo hi : Option Expr} (h : HE X W a ds M (fun x M1 => HO' X W lo ds M1 (fun i M2 => HO' X W hi ds M2 (fun j M3 => ∃ d, Sld M3 x i j d ∧ R (.d d) M3) Xp) Xp) Xp) : HE X W (.Subscript a (.Slice lo hi none p2) pos) ds M R Xp :=
  he_of (pe_slice (sl_list.or sl_tup) (pe_t X a) (po_t X lo) (po_t X hi)) fun n S F0 H0 F H σ I Q q x => h n S F0 H0 F H σ I _ (fun v F1 H1 M1 dv s1 I1 o1 g1 =>
    wo_t n g1 I1 _ (fun i F2 H2 M2 s2 I2 g2 => wo_t n g2 I2 _ (fun j F3 H3 M3 s3 I3 g3 => by
      obtain ⟨d, hd, g⟩ := g3
      have o3 := (o1.mono s2).mono s3
      have s13 := (s1.trans s2).trans s3
      cases hd with
      | lst hl =>
        obtain ⟨p, vs, rfl, hp, r⟩ := hl.get I3 o3
        refine .inl ⟨p, vs, rfl, .of hp, fun r2 hr => ?_⟩
        have y := Ext.lay (.lst (cutV vs i j)) I3.fh hr
        exact q _ _ _ M3 _ (s13.trans y.ff) (I3.ext y) (VOk.dat (.lst upd_same ((r.slice i j).mono y.ff))) g
      | tup hw =>
        cases o3 with
        | @tup _ ws _ hF r =>
          refine .inr ⟨_, _, rfl, .of (I3.fh _ _ hF), by rw [r.len]; exact hw, fun r2 hr => ?_⟩
          have y := Ext.lay (.tup (cutV ws i j)) I3.fh hr
          exact q _ _ _ M3 _ (s13.trans y.ff) (I3.ext y) (VOk.dat (.tup upd_same ((r.slice i j).mono y.ff))) g)
      fun cls F3 H3 M3 s3 I3 g3 => x cls F3 H3 M3 ((s1.trans s2).trans s3) I3 g3) fun cls F2 H2 M2 s2 I2 g2 => x cls F2 H2 M2 (s1.trans s2) I2 g2) x

/-! ### built-ins -/
def CD (K : PySem.W.Frag) (r : List V → Hp → VK → Prop) (Rc : List DV → Mem → (DV → Mem → Prop) → Prop) : Prop :=
  ∀ (S : Addr → Prop) (F0 H0 F H : Hp) (M : Mem) (σ : L2.St) (ds : Slots) (as : List DV) (vs : List V) (R : DV → Mem → Prop) (Q : VK), In K S F0 H0 F H M σ ds → VL K F vs as → Rc as M R →
    (∀ u F' H' M' dv, Same F F' → In K S F0 H0 F' H' M' σ ds → VOk K F' u dv → R dv M' → Q u H') → r vs H Q
theorem we_CB {K : PySem.W.Frag} {W : WX} {t : TA} {r : List V → Hp → VK → Prop} {Rc : List DV → Mem → (DV → Mem → Prop) → Prop} (cd : CD K r Rc) (h : Wa K W t ds M (fun as M1 => Rc as M1 R) Xp) : We K W (tCB r t) ds M R Xp := fun S F0 H0 F H σ I Q q x =>
  h S F0 H0 F H σ I _ (fun vs F1 H1 M1 dvs s1 I1 o1 g1 => cd S F0 H0 F1 H1 M1 σ ds dvs vs R Q I1 o1 g1 fun u F2 H2 M2 dv s2 I2 o2 g2 => q u F2 H2 M2 dv (s1.trans s2) I2 o2 g2) x
theorem he_B {x : Str} {id : String} {r : List V → Hp → VK → Prop} {Rc : List DV → Mem → (DV → Mem → Prop) → Prop} {V L G B : List Str} {p : Pos} (hc : CallR X (.builtin id) r) (cd : CD X.K r Rc) (k : Kx X V L G B) (m : Mm B x) (hv : bootBuiltins x = some (.builtin id))
    (h : HA X W (e :: es) ds M (fun as M1 => Rc as M1 R) Xp) (he : starEach (e :: es) X.env = (false, eval e X.env) :: starEach es X.env := by with_unfolding_all rfl) (hpl : (backTo pos (starEach es X.env)).any (·.1) = false := by with_unfolding_all rfl) : HE X W (.Call (.Name x p) (e :: es) [] pos) ds M R Xp :=
  he_of (pe_callB hc (k.bl x m.mem).1 (k.bl x m.mem).2.1 hv (pa_t X _) (k.bl x m.mem).2.2.1 (k.bl x m.mem).2.2.2 he hpl) fun n => we_CB cd (h n)
theorem he_Ty {x : Str} {id : String} {r : List V → Hp → VK → Prop} {Rc : List DV → Mem → (DV → Mem → Prop) → Prop} {V L G B : List Str} {p : Pos} (hc : CallR X (.type id) r) (cd : CD X.K r Rc) (k : Kx X V L G B) (m : Mm B x) (hv : bootBuiltins x = some (.type id))
    (h : HA X W (e :: es) ds M (fun as M1 => Rc as M1 R) Xp) (he : starEach (e :: es) X.env = (false, eval e X.env) :: starEach es X.env := by with_unfolding_all rfl) (hpl : (backTo pos (starEach es X.env)).any (·.1) = false := by with_unfolding_all rfl) : HE X W (.Call (.Name x p) (e :: es) [] pos) ds M R Xp :=
  he_of (pe_callTy hc (k.bl x m.mem).1 (k.bl x m.mem).2.1 hv (pa_t X _) (k.bl x m.mem).2.2.1 (k.bl x m.mem).2.2.2 he hpl) fun n => we_CB cd (h n)
/-- how many items a thing has -/
inductive LenD (M : Mem) : DV → Nat → Prop
  | lst {xs : List Dat} : LenD M (.d (.lst xs)) xs.length
  | tup {xs : List Dat} : LenD M (.d (.tup xs)) xs.length
  | scr {xs : List Int} : LenD M (.d (.scr xs)) xs.length
  | mu {p : Addr} {xs : List DV} {j : Nat} (h : M[j]? = some (p, .lst xs)) : LenD M (.m p) xs.length
theorem cd_len {K : PySem.W.Frag} : CD K (fun xs H Q => ∃ p ys, xs = [.ref p] ∧ (SqL K H p ys ∨ SqT K H p ys) ∧ Q (.int ys.length) H) (fun as M R => ∃ a n, as = [a] ∧ LenD M a n ∧ R (.d (.int n)) M) := by
  rintro S F0 H0 F H M σ ds as vs R Q I o ⟨a, n, rfl, hl, g⟩ q
  cases o with
  | cons o1 o2 =>
    cases o2
    have fin : ∀ {n : Nat}, R (.d (.int n)) M → Q (.int n) H := fun g => q _ F H M _ (.refl _) I (VOk.dat (.int _)) g
    cases hl with
    | lst =>
      cases o1 with
      | lst hF r =>
        refine ⟨_, _, rfl, .inl (.of (I.fh _ _ hF)), ?_⟩
        rw [r.len]
        exact fin g
    | tup =>
      cases o1 with
      | tup hF r =>
        refine ⟨_, _, rfl, .inr (.of (I.fh _ _ hF)), ?_⟩
        rw [r.len]
        exact fin g
    | scr =>
      cases o1 with
      | scr hF =>
        refine ⟨_, _, rfl, .inl (I.fh.seq hF), ?_⟩
        rw [List.length_map]
        exact fin g
    | mu h =>
      rename_i v p xs j
      have o1 : v = .ref p := o1
      subst o1
      obtain ⟨nf, o, ho, ok⟩ := I.mem _ (List.mem_of_getElem? h)
      cases ok with
      | lst l =>
        refine ⟨_, _, rfl, .inl (.of ho), ?_⟩
        rw [l.len]
        exact fin g
theorem he_len {V L G B : List Str} {p : Pos} (k : Kx X V L G B) (m : Mm B "len") (h : HA X W (e :: es) ds M (fun as M1 => ∃ a n, as = [a] ∧ LenD M1 a n ∧ R (.d (.int n)) M1) Xp)
    (he : starEach (e :: es) X.env = (false, eval e X.env) :: starEach es X.env := by with_unfolding_all rfl) (hpl : (backTo pos (starEach es X.env)).any (·.1) = false := by with_unfolding_all rfl) : HE X W (.Call (.Name "len" p) (e :: es) [] pos) ds M R Xp :=
  he_B call_len_seq cd_len k m PySem.boot_len h he hpl
/-- list(a list or tuple): a new one -/
inductive SeqD (M : Mem) : DV → List Dat → Prop
  | lst {xs : List Dat} : SeqD M (.d (.lst xs)) xs
  | tup {xs : List Dat} : SeqD M (.d (.tup xs)) xs
  | mu {p : Addr} {xs : List Dat} {j : Nat} (h : M[j]? = some (p, .lst (xs.map .d))) : SeqD M (.m p) xs
theorem SeqD.get {K : PySem.W.Frag} {S : Addr → Prop} {F0 H0 F H : Hp} {σ : L2.St} {v : V} {a : DV} {xs : List Dat} (I : In K S F0 H0 F H M σ ds) (o : VOk K F v a) (l : SeqD M a xs) : ∃ p vs, v = .ref p ∧ (H p = some (.lst vs) ∨ H p = some (.tup vs)) ∧ RpL K F vs xs := by
  cases l with
  | lst =>
    cases o with
    | lst hF r => exact ⟨_, _, rfl, .inl (I.fh _ _ hF), r⟩
  | tup =>
    cases o with
    | tup hF r => exact ⟨_, _, rfl, .inr (I.fh _ _ hF), r⟩
  | mu h =>
    have o : v = .ref _ := o
    subst o
    obtain ⟨nf, o, ho, ok⟩ := I.mem _ (List.mem_of_getElem? h)
    cases ok with
    | lst l => exact ⟨_, _, rfl, .inl ho, l.to_data⟩
theorem cd_list {K : PySem.W.Frag} : CD K (fun xs H Q => ∃ p ys, xs = [.ref p] ∧ (SqL K H p ys ∨ SqT K H p ys) ∧ ∀ l, H l = none → Q (.ref l) (upd H l (.lst ys))) (fun as M R => ∃ a xs, as = [a] ∧ SeqD M a xs ∧ R (.d (.lst xs)) M) := by
  rintro S F0 H0 F H M σ ds as vs R Q I o ⟨a, xs, rfl, hl, g⟩ q
  cases o with
  | cons o1 o2 =>
    cases o2
    obtain ⟨p, vs, rfl, hp, r⟩ := hl.get I o1
    refine ⟨p, vs, rfl, hp.imp .of .of, fun l hn => ?_⟩
    have y := Ext.lay (.lst vs) I.fh hn
    exact q _ _ _ M _ y.ff (I.ext y) (VOk.dat (.lst upd_same (r.mono y.ff))) g
theorem he_list {V L G B : List Str} {p : Pos} (k : Kx X V L G B) (m : Mm B "list") (h : HA X W (e :: es) ds M (fun as M1 => ∃ a xs, as = [a] ∧ SeqD M1 a xs ∧ R (.d (.lst xs)) M1) Xp)
    (he : starEach (e :: es) X.env = (false, eval e X.env) :: starEach es X.env := by with_unfolding_all rfl) (hpl : (backTo pos (starEach es X.env)).any (·.1) = false := by with_unfolding_all rfl) : HE X W (.Call (.Name "list" p) (e :: es) [] pos) ds M R Xp :=
  he_Ty call_list_of cd_list k m (by decide +kernel) h he hpl
/-- tuple(a list) -/
theorem cd_tuple {K : PySem.W.Frag} : CD K (fun xs H Q => ∃ p ys, xs = [.ref p] ∧ ((SqL K H p ys ∧ ∀ l, H l = none → Q (.ref l) (upd H l (.tup ys))) ∨ (SqT K H p ys ∧ Q (.ref p) H))) (fun as M R => ∃ a xs, as = [a] ∧ LOf M a xs ∧ R (.d (.tup xs)) M) := by
  rintro S F0 H0 F H M σ ds as vs R Q I o ⟨a, xs, rfl, hl, g⟩ q
  cases o with
  | cons o1 o2 =>
    cases o2
    obtain ⟨p, vs, rfl, hp, r⟩ := hl.get I o1
    refine ⟨p, vs, rfl, .inl ⟨.of hp, fun l hn => ?_⟩⟩
    have y := Ext.lay (.tup vs) I.fh hn
    exact q _ _ _ M _ y.ff (I.ext y) (VOk.dat (.tup upd_same (r.mono y.ff))) g
theorem he_tupleB {V L G B : List Str} {p : Pos} (k : Kx X V L G B) (m : Mm B "tuple") (h : HA X W (e :: es) ds M (fun as M1 => ∃ a xs, as = [a] ∧ LOf M1 a xs ∧ R (.d (.tup xs)) M1) Xp)
    (he : starEach (e :: es) X.env = (false, eval e X.env) :: starEach es X.env := by with_unfolding_all rfl) (hpl : (backTo pos (starEach es X.env)).any (·.1) = false := by with_unfolding_all rfl) : HE X W (.Call (.Name "tuple" p) (e :: es) [] pos) ds M R Xp :=
  he_Ty call_tuple_of cd_tuple k m (by decide +kernel) h he hpl
theorem cd_abs {K : PySem.W.Frag} : CD K (fun xs H Q => ∃ i, xs = [.int i] ∧ Q (.int (if i < 0 then -i else i)) H) (fun as M R => ∃ i, as = [.d (.int i)] ∧ R (.d (.int (if i < 0 then -i else i))) M) := by
  rintro S F0 H0 F H M σ ds as vs R Q I o ⟨i, rfl, g⟩ q
  cases o with
  | cons o1 o2 =>
    cases o2
    cases o1
    exact ⟨i, rfl, q _ F H M _ (.refl _) I (VOk.dat (.int _)) g⟩
theorem he_abs {V L G B : List Str} {p : Pos} (k : Kx X V L G B) (m : Mm B "abs") (h : HA X W (e :: es) ds M (fun as M1 => ∃ i, as = [.d (.int i)] ∧ R (.d (.int (if i < 0 then -i else i))) M1) Xp)
    (he : starEach (e :: es) X.env = (false, eval e X.env) :: starEach es X.env := by with_unfolding_all rfl) (hpl : (backTo pos (starEach es X.env)).any (·.1) = false := by with_unfolding_all rfl) : HE X W (.Call (.Name "abs" p) (e :: es) [] pos) ds M R Xp :=
  he_B call_abs cd_abs k m (by decide +kernel) h he hpl
inductive IntD : Dat → Int → Prop
  | int (i : Int) : IntD (.int i) i
  | bl (b : Bool) : IntD (.bl b) (if b then 1 else 0)
theorem cd_int {K : PySem.W.Frag} : CD K (fun xs H Q => (∃ i, xs = [.int i] ∧ Q (.int i) H) ∨ ∃ k, xs = [.bl k] ∧ Q (.int (if k then 1 else 0)) H) (fun as M R => ∃ d i, as = [.d d] ∧ IntD d i ∧ R (.d (.int i)) M) := by
  rintro S F0 H0 F H M σ ds as vs R Q I o ⟨d, i, rfl, hd, g⟩ q
  cases o with
  | cons o1 o2 =>
    cases o2
    cases hd with
    | int i =>
      cases o1
      exact .inl ⟨_, rfl, q _ F H M _ (.refl _) I (VOk.dat (.int _)) g⟩
    | bl b =>
      cases o1
      exact .inr ⟨_, rfl, q _ F H M _ (.refl _) I (VOk.dat (.int _)) g⟩
theorem he_intB {V L G B : List Str} {p : Pos} (k : Kx X V L G B) (m : Mm B "int") (h : HA X W (e :: es) ds M (fun as M1 => ∃ d i, as = [.d d] ∧ IntD d i ∧ R (.d (.int i)) M1) Xp)
    (he : starEach (e :: es) X.env = (false, eval e X.env) :: starEach es X.env := by with_unfolding_all rfl) (hpl : (backTo pos (starEach es X.env)).any (·.1) = false := by with_unfolding_all rfl) : HE X W (.Call (.Name "int" p) (e :: es) [] pos) ds M R Xp :=
  he_Ty call_int1 cd_int k m (by decide +kernel) h he hpl
theorem cd_max2 {K : PySem.W.Frag} : CD K (fun xs H Q => ∃ i j, xs = [.int i, .int j] ∧ Q (.int (if j > i then j else i)) H) (fun as M R => ∃ i j, as = [.d (.int i), .d (.int j)] ∧ R (.d (.int (max i j))) M) := by
  rintro S F0 H0 F H M σ ds as vs R Q I o ⟨i, j, rfl, g⟩ q
  cases o with
  | cons o1 o2 =>
    cases o2 with
    | cons o2 o3 =>
      cases o3
      cases o1
      cases o2
      refine ⟨i, j, rfl, ?_⟩
      rw [show (if j > i then j else i) = max i j from by split <;> omega]
      exact q _ F H M _ (.refl _) I (VOk.dat (.int _)) g
theorem cd_min2 {K : PySem.W.Frag} : CD K (fun xs H Q => ∃ i j, xs = [.int i, .int j] ∧ Q (.int (if j < i then j else i)) H) (fun as M R => ∃ i j, as = [.d (.int i), .d (.int j)] ∧ R (.d (.int (min i j))) M) := by
  rintro S F0 H0 F H M σ ds as vs R Q I o ⟨i, j, rfl, g⟩ q
  cases o with
  | cons o1 o2 =>
    cases o2 with
    | cons o2 o3 =>
      cases o3
      cases o1
      cases o2
      refine ⟨i, j, rfl, ?_⟩
      rw [show (if j < i then j else i) = min i j from by split <;> omega]
      exact q _ F H M _ (.refl _) I (VOk.dat (.int _)) g
theorem he_max2 {V L G B : List Str} {p : Pos} (hc : X.calm = true) (k : Kx X V L G B) (m : Mm B "max") (h : HA X W (e :: es) ds M (fun as M1 => ∃ i j, as = [.d (.int i), .d (.int j)] ∧ R (.d (.int (max i j))) M1) Xp)
    (he : starEach (e :: es) X.env = (false, eval e X.env) :: starEach es X.env := by with_unfolding_all rfl) (hpl : (backTo pos (starEach es X.env)).any (·.1) = false := by with_unfolding_all rfl) : HE X W (.Call (.Name "max" p) (e :: es) [] pos) ds M R Xp :=
  he_B (call_max2 hc) cd_max2 k m (by decide +kernel) h he hpl
theorem he_min2 {V L G B : List Str} {p : Pos} (hc : X.calm = true) (k : Kx X V L G B) (m : Mm B "min") (h : HA X W (e :: es) ds M (fun as M1 => ∃ i j, as = [.d (.int i), .d (.int j)] ∧ R (.d (.int (min i j))) M1) Xp)
    (he : starEach (e :: es) X.env = (false, eval e X.env) :: starEach es X.env := by with_unfolding_all rfl) (hpl : (backTo pos (starEach es X.env)).any (·.1) = false := by with_unfolding_all rfl) : HE X W (.Call (.Name "min" p) (e :: es) [] pos) ds M R Xp :=
  he_B (call_min2 hc) cd_min2 k m (by decide +kernel) h he hpl
/-- max(a list of ints) -/
theorem cd_maxL {K : PySem.W.Frag} : CD K (rMax K) (fun as M R => ∃ (a : DV) (ns : List Int), as = [a] ∧ LOf M a (ns.map .int) ∧ 0 < ns.length ∧ ∀ m, m ∈ ns → (∀ y, y ∈ ns → y ≤ m) → R (.d (.int m)) M) := by
  rintro S F0 H0 F H M σ ds as vs R Q I o ⟨a, ns, rfl, hl, hz, g⟩ q
  cases o with
  | cons o1 o2 =>
    cases o2
    obtain ⟨p, vs, rfl, hp, r⟩ := hl.get I o1
    have e := r.int_inv
    subst e
    exact ⟨p, ns, rfl, .of hp, hz, fun m hm hy => q _ F H M _ (.refl _) I (VOk.dat (.int _)) (g m hm hy)⟩
theorem he_maxL {V L G B : List Str} {p : Pos} (hc : X.calm = true) (k : Kx X V L G B) (m : Mm B "max") (h : HA X W (e :: es) ds M (fun as M1 => ∃ (a : DV) (ns : List Int), as = [a] ∧ LOf M1 a (ns.map .int) ∧ 0 < ns.length ∧ ∀ m, m ∈ ns → (∀ y, y ∈ ns → y ≤ m) → R (.d (.int m)) M1) Xp)
    (he : starEach (e :: es) X.env = (false, eval e X.env) :: starEach es X.env := by with_unfolding_all rfl) (hpl : (backTo pos (starEach es X.env)).any (·.1) = false := by with_unfolding_all rfl) : HE X W (.Call (.Name "max" p) (e :: es) [] pos) ds M R Xp :=
  he_B (cr_max hc) cd_maxL k m (by decide +kernel) h he hpl
theorem cd_sumL {K : PySem.W.Frag} : CD K (rSum K) (fun as M R => ∃ (a : DV) (ns : List Int), as = [a] ∧ LOf M a (ns.map .int) ∧ R (.d (.int ns.sum)) M) := by
  rintro S F0 H0 F H M σ ds as vs R Q I o ⟨a, ns, rfl, hl, g⟩ q
  cases o with
  | cons o1 o2 =>
    cases o2
    obtain ⟨p, vs, rfl, hp, r⟩ := hl.get I o1
    have e := r.int_inv
    subst e
    exact ⟨p, ns, rfl, .of hp, q _ F H M _ (.refl _) I (VOk.dat (.int _)) g⟩
theorem he_sumL {V L G B : List Str} {p : Pos} (hc : X.calm = true) (k : Kx X V L G B) (m : Mm B "sum") (h : HA X W (e :: es) ds M (fun as M1 => ∃ (a : DV) (ns : List Int), as = [a] ∧ LOf M1 a (ns.map .int) ∧ R (.d (.int ns.sum)) M1) Xp)
    (he : starEach (e :: es) X.env = (false, eval e X.env) :: starEach es X.env := by with_unfolding_all rfl) (hpl : (backTo pos (starEach es X.env)).any (·.1) = false := by with_unfolding_all rfl) : HE X W (.Call (.Name "sum" p) (e :: es) [] pos) ds M R Xp :=
  he_B (cr_sum hc) cd_sumL k m (by decide +kernel) h he hpl
end
end CS

/-! CsLoop: targets, for, comprehensions; names of a context. -/
namespace CS
open PySem L2

section
variable {X : Cx} {W : WX} {e a b c : Expr} {es : List Expr} {ds : Slots} {M : Mem} {R : DV → Mem → Prop} {Xp : Value → Mem → Prop} {pos p2 : Pos} {pn : Slots → Mem → Prop} {pr : DV → Mem → Prop} {pb pc : Slots → Mem → Prop} {px : Value → Slots → Mem → Prop}

/-! ### targets -/
/-- what a target's reading t does: the places vs alone are stored, the slots are as f says -/
structure GTS (K : PySem.W.Frag) (t : TG) (N : List Str) (vs : List Nat) (f : DV → Slots → (Slots → Prop) → Prop) : Prop where
  mono : ∀ dv ds (k k' : Slots → Prop), (∀ d, k d → k' d) → f dv ds k → f dv ds k'
  does : ∀ (S : Addr → Prop) (F0 H0 F H : Hp) (M : Mem) (σ : L2.St) (ds : Slots) (v : V) (dv : DV) (k : Slots → Prop) (Q : L2.St → Hp → Prop), ds.map (·.1) = N → In K S F0 H0 F H M σ ds → VOk K F v dv → f dv ds k →
    (∀ σ' ds', In K S F0 H0 F H M σ' ds' → ds'.map (·.1) = ds.map (·.1) → k ds' → (∀ j, j ∉ vs → σ'[j]? = σ[j]?) → Q σ' H) → t v σ H Q
structure GTSs (K : PySem.W.Frag) (t : TGs) (N : List Str) (vs : List Nat) (f : List Dat → Slots → (Slots → Prop) → Prop) : Prop where
  mono : ∀ xs ds (k k' : Slots → Prop), (∀ d, k d → k' d) → f xs ds k → f xs ds k'
  does : ∀ (S : Addr → Prop) (F0 H0 F H : Hp) (M : Mem) (σ : L2.St) (ds : Slots) (us : List V) (xs : List Dat) (k : Slots → Prop) (Q : L2.St → Hp → Prop), ds.map (·.1) = N → In K S F0 H0 F H M σ ds → RpL K F us xs → f xs ds k →
    (∀ σ' ds', In K S F0 H0 F H M σ' ds' → ds'.map (·.1) = ds.map (·.1) → k ds' → (∀ j, j ∉ vs → σ'[j]? = σ[j]?) → Q σ' H) → t us σ H Q
/-- a name at the place i -/
def fName (x : Str) (i : Nat) : DV → Slots → (Slots → Prop) → Prop := fun dv ds k => ∃ ds', Up ds x dv ds' i ∧ k ds'
theorem gs_name {K : PySem.W.Frag} {x : Str} {i : Nat} {N : List Str} : GTS K (gName i) N [i] (fName x i) :=
  ⟨fun dv ds k k' h ⟨ds', u, q⟩ => ⟨ds', u, h _ q⟩, fun S F0 H0 F H M σ ds v dv kk Q n I o ⟨ds', u, q⟩ g => g _ ds' (I.slots (u.set I.env o)) u.names q fun j hj => by
    rw [List.getElem?_set_ne (fun e => hj (by simp [e]))]⟩
theorem pg_nm {x : Str} {i : Nat} {V L G B : List Str} (k : Kx X V L G B) (m : Mm L x) (hi : X.N[i]? = some x) : PG X (.Name x pos) (gName i) := pg_name (i := i) k.nd hi (k.st x m.mem).1 (k.st x m.mem).2
/-- a tuple of targets -/
def fNil : List Dat → Slots → (Slots → Prop) → Prop := fun xs ds k => xs = [] ∧ k ds
def fCons (f : DV → Slots → (Slots → Prop) → Prop) (g : List Dat → Slots → (Slots → Prop) → Prop) : List Dat → Slots → (Slots → Prop) → Prop := fun xs ds k => ∃ x r, xs = x :: r ∧ f (.d x) ds fun ds' => g r ds' k
theorem gs_nil {K : PySem.W.Frag} {N : List Str} : GTSs K gNil N [] fNil := ⟨fun xs ds k k' h ⟨e, q⟩ => ⟨e, h _ q⟩, fun S F0 H0 F H M σ ds vs xs k Q n I r ⟨e, q⟩ g => by
  subst e
  cases r
  exact ⟨rfl, g σ ds I rfl q fun _ _ => rfl⟩⟩
theorem gs_cons {K : PySem.W.Frag} {t : TG} {u : TGs} {N : List Str} {is js : List Nat} {f : DV → Slots → (Slots → Prop) → Prop} {g : List Dat → Slots → (Slots → Prop) → Prop} (h1 : GTS K t N is f) (h2 : GTSs K u N js g) :
    GTSs K (gCons t u) N (is ++ js) (fCons f g) := by
  refine ⟨fun xs ds k k' h ⟨x, r, e, q⟩ => ⟨x, r, e, h1.mono _ _ _ _ (fun d q2 => h2.mono _ _ _ _ h q2) q⟩, fun S F0 H0 F H M σ ds vs xs k Q n I r ⟨x, r', e1, q⟩ gg => ?_⟩
  subst e1
  cases r with
  | cons r1 r2 =>
    refine ⟨_, _, rfl, h1.does S F0 H0 F H M σ ds _ _ _ _ n I (VOk.dat r1) q fun σ1 ds1 I1 n1 q1 c1 => ?_⟩
    refine h2.does S F0 H0 F H M σ1 ds1 _ _ k Q (n1.trans n) I1 r2 q1 fun σ2 ds2 I2 n2 q2 c2 => gg σ2 ds2 I2 (n2.trans n1) q2 fun j hj => ?_
    rw [c2 j (fun z => hj (List.mem_append_right _ z)), c1 j (fun z => hj (List.mem_append_left _ z))]
def fTup (n : Nat) (g : List Dat → Slots → (Slots → Prop) → Prop) : DV → Slots → (Slots → Prop) → Prop := fun dv ds k => ∃ xs, dv = .d (.tup xs) ∧ xs.length = n ∧ g xs ds k
theorem gs_tup {K : PySem.W.Frag} {u : TGs} {N : List Str} {n : Nat} {is : List Nat} {g : List Dat → Slots → (Slots → Prop) → Prop} (h : GTSs K u N is g) : GTS K (gTup K n u) N is (fTup n g) := by
  refine ⟨fun dv ds k k' hk ⟨xs, e, hl, q⟩ => ⟨xs, e, hl, h.mono _ _ _ _ hk q⟩, fun S F0 H0 F H M σ ds v dv k Q n1 I o ⟨xs, e, hl, q⟩ gg => ?_⟩
  subst e
  cases o with
  | tup hF r => exact ⟨_, _, rfl, .of (I.fh _ _ hF), by rw [r.len]; exact hl, h.does S F0 H0 F H M σ ds _ xs k Q n1 I r q gg⟩

/-! ### what is walked -/
/-- the iterator J yields xs -/
def ItD (K : PySem.W.Frag) (J : It) (F : Hp) (xs : List Dat) : Prop := ∀ F' H', Same F F' → Same F' H' → ∀ i, (i < xs.length → J.go i H') ∧ (xs.length ≤ i → J.stop i H') ∧
  ∀ v H2, J.yld i H' v H2 → i < xs.length → ∃ F2 x, Ext F' H' F2 H2 ∧ xs[i]? = some x ∧ Rp K F2 v x
def HI (X : Cx) (W : WX) (tg iter : Expr) (ds : Slots) (M : Mem) (k : List Dat → Mem → Prop) (Xp : Value → Mem → Prop) : Prop := X.N = ds.map (·.1) → ∃ wi, PI X tg iter wi ∧
  ∀ (S : Addr → Prop) (F0 H0 F H : Hp) (σ : L2.St), In X.K S F0 H0 F H M σ ds → ∀ Q : It → Hp → Prop,
    (∀ J xs F' H' M', Same F F' → In X.K S F0 H0 F' H' M' σ ds → ItD X.K J F' xs → k xs M' → Q J H') →
    (∀ cls F' H' M', Same F F' → In X.K S F0 H0 F' H' M' σ ds → Xp cls M' → W cls none σ H') → wi σ H Q
theorem itd_list {K : PySem.W.Frag} {F : Hp} {a : Addr} {vs : List V} {xs : List Dat} (hF : F a = some (.lst vs)) (r : RpL K F vs xs) : ItD K (Itl K a) F xs := fun F' H' s1 s2 i => by
  have hH : H' a = some (.lst vs) := s2 _ _ (s1 _ _ hF)
  refine ⟨fun h => ⟨vs, vs[i]'(by rw [r.len]; exact h), .of hH, by simp⟩, fun h => ⟨vs, .of hH, by rw [r.len]; exact h⟩, fun v H2 ⟨e, y⟩ _ => ?_⟩
  subst e
  obtain ⟨x, hx, rx⟩ := r.getV (y vs (.of hH))
  exact ⟨F', x, .refl s2, hx, rx.mono s1⟩
theorem itd_tup {K : PySem.W.Frag} {F : Hp} {a : Addr} {vs : List V} {xs : List Dat} (hF : F a = some (.tup vs)) (r : RpL K F vs xs) : ItD K (Itt K a) F xs := fun F' H' s1 s2 i => by
  have hH : H' a = some (.tup vs) := s2 _ _ (s1 _ _ hF)
  refine ⟨fun h => ⟨vs, vs[i]'(by rw [r.len]; exact h), .of hH, by simp⟩, fun h => ⟨vs, .of hH, by rw [r.len]; exact h⟩, fun v H2 ⟨e, y⟩ _ => ?_⟩
  subst e
  obtain ⟨x, hx, rx⟩ := r.getV (y vs (.of hH))
  exact ⟨F', x, .refl s2, hx, rx.mono s1⟩
theorem itd_scr {K : PySem.W.Frag} {F : Hp} {a : Addr} {ns : List Int} (hF : SqL K F a (ns.map V.int)) : ItD K (Itl K a) F (ns.map Dat.int) := fun F' H' s1 s2 i => by
  have hH : SqL K H' a (ns.map V.int) := s2.seq (s1.seq hF)
  refine ⟨fun h => ?_, fun h => ⟨_, hH, by rw [List.length_map] at h ⊢; exact h⟩, fun v H2 ⟨e, y⟩ _ => ?_⟩
  · rw [List.length_map] at h
    exact ⟨_, .int ns[i], hH, by rw [List.getElem?_map, List.getElem?_eq_getElem h]; rfl⟩
  · subst e
    have z := y _ hH
    rw [List.getElem?_map] at z
    cases q : ns[i]? with
    | none => rw [q] at z; cases z
    | some n =>
      rw [q] at z
      have z' := Option.some.inj z
      subst z'
      exact ⟨F', .int n, .refl s2, by rw [List.getElem?_map, q] <;> rfl, .int n⟩
/-- lo, lo + 1, .. -/
def rngD (lo : Int) (n : Nat) : List Dat := (List.range n).map fun i => .int (lo + (i : Nat))
theorem itd_rng {K : PySem.W.Frag} {F : Hp} (lo : Int) (n : Nat) : ItD K (Itr lo n) F (rngD lo n) := fun F' H' s1 s2 i => by
  unfold rngD
  refine ⟨fun h => (show i < n by simpa using h), fun h => (show n ≤ i by simpa using h), fun v H2 ⟨e, y⟩ hi => ?_⟩
  subst e
  subst y
  have hi : i < n := by simpa using hi
  exact ⟨F', .int (lo + (i : Nat)), .refl s2, by rw [List.getElem?_map, List.getElem?_range hi]; rfl, .int _⟩
theorem hi_lst {tg iter : Expr} {k : List Dat → Mem → Prop} (h : HE X W iter ds M (fun dv M1 => ∃ xs, dv = .d (.lst xs) ∧ k xs M1) Xp) : HI X W tg iter ds M k Xp := fun n => ⟨_, pi_list (pe_t X iter), fun S F0 H0 F H σ I Q q x =>
  h n S F0 H0 F H σ I _ (fun v F1 H1 M1 dv s1 I1 o1 g1 => by
    obtain ⟨xs, rfl, g⟩ := g1
    cases o1 with
    | lst hF r => exact ⟨_, rfl, ⟨_, .of (I1.fh _ _ hF)⟩, q _ xs F1 H1 M1 s1 I1 (itd_list hF r) g⟩) x⟩
theorem hi_tup {tg iter : Expr} {k : List Dat → Mem → Prop} (h : HE X W iter ds M (fun dv M1 => ∃ xs, dv = .d (.tup xs) ∧ k xs M1) Xp) : HI X W tg iter ds M k Xp := fun n => ⟨_, pi_tup (pe_t X iter), fun S F0 H0 F H σ I Q q x =>
  h n S F0 H0 F H σ I _ (fun v F1 H1 M1 dv s1 I1 o1 g1 => by
    obtain ⟨xs, rfl, g⟩ := g1
    cases o1 with
    | tup hF r => exact ⟨_, rfl, ⟨_, .of (I1.fh _ _ hF)⟩, q _ xs F1 H1 M1 s1 I1 (itd_tup hF r) g⟩) x⟩
theorem hi_scr {tg iter : Expr} {k : List Dat → Mem → Prop} (h : HE X W iter ds M (fun dv M1 => ∃ ns, dv = .d (.scr ns) ∧ k (ns.map Dat.int) M1) Xp) : HI X W tg iter ds M k Xp := fun n => ⟨_, pi_list (pe_t X iter), fun S F0 H0 F H σ I Q q x =>
  h n S F0 H0 F H σ I _ (fun v F1 H1 M1 dv s1 I1 o1 g1 => by
    obtain ⟨ns, rfl, g⟩ := g1
    cases o1 with
    | scr hF => exact ⟨_, rfl, ⟨_, I1.fh.seq hF⟩, q _ _ F1 H1 M1 s1 I1 (itd_scr hF) g⟩) x⟩
theorem hi_rng1 {tg : Expr} {k : List Dat → Mem → Prop} {V L G B : List Str} {p : Pos} (kx : Kx X V L G B) (m : Mm B "range") (h : HA X W [a] ds M (fun dvs M1 => ∃ j, dvs = [.d (.int j)] ∧ -(2 ^ 62) ≤ j ∧ j < 2 ^ 62 ∧ k (rngD 0 j.toNat) M1) Xp)
    (hs : starEach [a] X.env = [(false, eval a X.env)] := by with_unfolding_all rfl) : HI X W tg (.Call (.Name "range" p) [a] [] pos) ds M k Xp := fun n => ⟨_, pi_range1 (kx.bl _ m.mem).1 (kx.bl _ m.mem).2.1 (pa_t X [a]) hs, fun S F0 H0 F H σ I Q q x =>
  h n S F0 H0 F H σ I _ (fun vs F1 H1 M1 dvs s1 I1 o1 g1 => by
    obtain ⟨j, rfl, h1, h2, g⟩ := g1
    cases o1 with
    | cons o1 o2 =>
      cases o2
      cases o1
      exact ⟨j, rfl, h1, h2, q _ _ F1 H1 M1 s1 I1 (itd_rng 0 j.toNat) g⟩) x⟩
theorem hi_rng2 {tg : Expr} {k : List Dat → Mem → Prop} {V L G B : List Str} {p : Pos} (kx : Kx X V L G B) (m : Mm B "range")
    (h : HA X W [a, b] ds M (fun dvs M2 => ∃ i j, dvs = [.d (.int i), .d (.int j)] ∧ (-(2 ^ 62) ≤ i ∧ i < 2 ^ 62 ∧ -(2 ^ 62) ≤ j ∧ j < 2 ^ 62) ∧ k (rngD i (j - i).toNat) M2) Xp)
    (hs : starEach [a, b] X.env = [(false, eval a X.env), (false, eval b X.env)] := by with_unfolding_all rfl) (hs2 : starEach [b] X.env = [(false, eval b X.env)] := by with_unfolding_all rfl) : HI X W tg (.Call (.Name "range" p) [a, b] [] pos) ds M k Xp := fun n =>
  ⟨_, pi_range2 (kx.bl _ m.mem).1 (kx.bl _ m.mem).2.1 (pa_t X [a, b]) hs hs2, fun S F0 H0 F H σ I Q q x =>
  h n S F0 H0 F H σ I _ (fun vs F1 H1 M1 dvs s1 I1 o1 g1 => by
    obtain ⟨i, j, rfl, hb, g⟩ := g1
    cases o1 with
    | cons o1 o2 =>
      cases o2 with
      | cons o2 o3 =>
        cases o3
        cases o1
        cases o2
        exact ⟨i, j, rfl, hb, q _ _ F1 H1 M1 s1 I1 (itd_rng i (j - i).toNat) g⟩) x⟩

/-! ### for -/
theorem hs_for {iter tg : Expr} {body : List Stmt} {t : TG} {is : List Nat} {f : DV → Slots → (Slots → Prop) → Prop} (hp : PassesOwn (model X.prog X.w) X.A X.env X.xe) (hc : X.calm = true) (hgp : PG X tg t) (hg : GTS X.K t X.N is f)
    (hi : HI X W tg iter ds M (fun xs M1 => ∃ J : Nat → Slots → Mem → Prop, J 0 ds M1 ∧
      (∀ n x ds' M', xs[n]? = some x → ds'.map (·.1) = ds.map (·.1) → J n ds' M' → f (.d x) ds' fun ds2 => HSs X W body ds2 M' ⟨J (n + 1), pr, pn, J (n + 1), px⟩) ∧
      (∀ ds' M', ds'.map (·.1) = ds.map (·.1) → J xs.length ds' M' → pn ds' M')) (fun cls M1 => px cls ds M1)) (hs : ∀ x, foldedSetIterable iter X.env x = pure x := by intro _; with_unfolding_all rfl) : HS X W (.For tg iter body [] pos) ds M ⟨pn, pr, pb, pc, px⟩ := fun n => by
  obtain ⟨wi, pi, hw⟩ := hi n
  refine hs_of (ps_for hp hc pi hgp (pss_t X body) hs) (fun n S F0 H0 F H σ D I g1 g2 g3 g4 g5 => hw S F0 H0 F H σ I _ ?_ fun cls F1 H1 M1 s1 I1 q1 => g5 cls F1 H1 M1 σ ds s1 I1 rfl q1) n
  rintro J xs F1 H1 M1 s1 I1 it ⟨JJ, j0, turn, done⟩
  refine ⟨fun i m σ' H' => m = xs.length - i ∧ i ≤ xs.length ∧ ∃ F' ds' M', Same F1 F' ∧ In X.K S F0 H0 F' H' M' σ' ds' ∧ ds'.map (·.1) = ds.map (·.1) ∧ JJ i ds' M', ⟨xs.length, by simp, Nat.zero_le _, F1, ds, M1, .refl _, I1, rfl, j0⟩, ?_⟩
  rintro i m σ' H' ⟨rfl, hi, F', ds', M', s', I', n', j'⟩
  obtain ⟨i1, i2, i3⟩ := it F' H' s' I'.fh i
  by_cases hlt : i < xs.length
  · refine .inr ⟨i1 hlt, fun σ2 H2 => i + 1 ≤ xs.length ∧ ∃ F' ds' M', Same F1 F' ∧ In X.K S F0 H0 F' H2 M' σ2 ds' ∧ ds'.map (·.1) = ds.map (·.1) ∧ JJ (i + 1) ds' M', fun σ2 H2 q2 => ⟨xs.length - (i + 1), by omega, rfl, q2.1, q2.2⟩, fun y H2 yld => ?_⟩
    obtain ⟨F2, x, ex, hx, rx⟩ := i3 y H2 yld hlt
    have I2 := I'.ext ex
    refine hg.does S F0 H0 F2 H2 M' σ' ds' y _ _ _ (n'.trans n.symm) I2 (VOk.dat rx) (turn i x ds' M' hx n' j') ?_
    intro σ2 ds2 I3 n2 q2 _
    have s2 := s'.trans ex.ff
    refine q2 (n.trans (n2.trans n').symm) S F0 H0 F2 H2 σ2 _ I3 ?_ ?_ ?_ ?_ ?_
    · exact fun F3 H3 M3 σ3 ds3 s3 I3 n3 q3 => ⟨hlt, F3, ds3, M3, s2.trans s3, I3, n3.trans (n2.trans n'), q3⟩
    · exact fun v3 F3 H3 M3 σ3 ds3 dv3 s3 I3 o3 q3 => g2 v3 F3 H3 M3 σ3 ds3 dv3 ((s1.trans s2).trans s3) I3 o3 q3
    · exact fun F3 H3 M3 σ3 ds3 s3 I3 n3 q3 => g1 F3 H3 M3 σ3 ds3 ((s1.trans s2).trans s3) I3 (n3.trans (n2.trans n')) q3
    · exact fun F3 H3 M3 σ3 ds3 s3 I3 n3 q3 => ⟨hlt, F3, ds3, M3, s2.trans s3, I3, n3.trans (n2.trans n'), q3⟩
    · exact fun cls F3 H3 M3 σ3 ds3 s3 I3 n3 q3 => g5 cls F3 H3 M3 σ3 ds3 ((s1.trans s2).trans s3) I3 (n3.trans (n2.trans n')) q3
  · have e : i = xs.length := by omega
    subst e
    exact .inl ⟨i2 (Nat.le_refl _), g1 F' H' M' σ' ds' (s1.trans s') I' n' (done ds' M' n' j')⟩

/-! ### comprehensions -/
def wipe1 : Slots → Nat → Slots
  | [], _ => []
  | (x, _) :: r, 0 => (x, .no) :: r
  | e :: r, v + 1 => e :: wipe1 r v
def wipeD (ds : Slots) : List Nat → Slots
  | [] => ds
  | v :: vs => wipe1 (wipeD ds vs) v
theorem wipe1_names : ∀ (ds : Slots) (v : Nat), (wipe1 ds v).map (·.1) = ds.map (·.1)
  | [], _ => rfl
  | (x, _) :: r, 0 => rfl
  | e :: r, v + 1 => by
    show e.1 :: (wipe1 r v).map (·.1) = e.1 :: r.map (·.1)
    rw [wipe1_names r v]
theorem wipeD_names (ds : Slots) : ∀ vs, (wipeD ds vs).map (·.1) = ds.map (·.1)
  | [] => rfl
  | v :: vs => (wipe1_names _ v).trans (wipeD_names ds vs)
theorem env_wipe1 {K : PySem.W.Frag} {F : Hp} : ∀ {σ : L2.St} {ds : Slots} (v : Nat), EnvOk K F σ ds → EnvOk K F (σ.set v none) (wipe1 ds v)
  | _, _, 0, .nil => .nil
  | _, _, _ + 1, .nil => .nil
  | _, _, 0, .cons _ r => .cons trivial r
  | _, _, v + 1, .cons h r => .cons h (env_wipe1 v r)
theorem env_wipe {K : PySem.W.Frag} {F : Hp} {σ : L2.St} {ds : Slots} (h : EnvOk K F σ ds) : ∀ vs, EnvOk K F (wipe σ vs) (wipeD ds vs)
  | [] => h
  | v :: vs => env_wipe1 v (env_wipe h vs)
theorem wipe_in {σ : L2.St} {j : Nat} : ∀ {vs : List Nat}, j ∈ vs → (wipe σ vs)[j]? = if j < σ.length then some none else none
  | v :: vs, h => by
    unfold wipe
    by_cases e : v = j
    · subst e
      rw [List.getElem?_set, if_pos rfl, wipe_length]
    · rw [List.getElem?_set_ne e]
      exact wipe_in ((List.mem_cons.mp h).resolve_left fun z => e z.symm)
theorem wipe_same {σ σ' : L2.St} {vs : List Nat} (hl : σ'.length = σ.length) (h : ∀ j, j ∉ vs → σ'[j]? = σ[j]?) : wipe σ' vs = wipe σ vs := by
  refine List.ext_getElem? fun j => ?_
  by_cases hj : j ∈ vs
  · rw [wipe_in hj, wipe_in hj, hl]
  · rw [wipe_out hj, wipe_out hj, h j hj]
theorem wipe_twice (σ : L2.St) (vs : List Nat) : wipe (wipe σ vs) vs = wipe σ vs := wipe_same (wipe_length σ vs) fun j hj => wipe_out hj
/-- what holds of the blocks of a comprehension -/
abbrev BK (X : Cx) (scope : Scope) (Pr : Cx → Prop) : Prop := ∀ (s : Shared) (H : Hp) (C : Addr) (cl : List (Str × Addr)) (fp : List Addr), Pr (X.blk s H scope (compEnvC scope cl C X.env) fp)
abbrev W0 : WX := fun _ _ _ _ => False
/-- readings that stand for one judgement in every block -/
def bE (X : Cx) (scope : Scope) (e : Expr) : TE := fun σ H Q => BK X scope fun Y => tE Y e σ H Q
def bT (X : Cx) (scope : Scope) (e : Expr) : TT := fun σ H Q => BK X scope fun Y => tT Y e σ H Q
/-- the new list D of a comprehension, so far -/
abbrev Acc (M : Mem) (D : Addr) (acc : List Dat) : Mem := M ++ [(D, .lst (acc.map DV.d))]
theorem lc_turn {K : PySem.W.Frag} {S : Addr → Prop} {F0 H0 F H : Hp} {σ : L2.St} {D : Addr} {acc : List Dat} {y : V} {d : Dat} (I : In K S F0 H0 F H (Acc M D acc) σ ds) (ry : Rp K F y d) :
    ∃ vs, H D = some (.lst vs) ∧ vs.length = acc.length ∧ In K S F0 H0 F (upd H D (.lst (vs ++ [y]))) (Acc M D (acc ++ [d])) σ ds := by
  have hm : (Acc M D acc)[M.length]? = some (D, MO.lst (acc.map DV.d)) := by simp [Acc]
  obtain ⟨nf, o, ho, ok⟩ := I.mem _ (List.mem_of_getElem? hm)
  cases ok with
  | @lst vs _ l =>
    refine ⟨vs, ho, by rw [l.len, List.length_map], ?_⟩
    have J := I.setM (m' := .lst ((acc ++ [d]).map DV.d)) hm (.lst (by rw [List.map_append]; exact VL.append l (.cons (VOk.dat ry) .nil)))
    have e : (Acc M D acc).set M.length (D, MO.lst ((acc ++ [d]).map DV.d)) = Acc M D (acc ++ [d]) := by simp [Acc]
    rw [e] at J
    exact J
/-- [elt for tg in iter] and [elt for tg in iter if cond] -/
theorem we_lc {K : PySem.W.Frag} {W : WX} {t : TG} {is : List Nat} {f : DV → Slots → (Slots → Prop) → Prop} {N : List Str} {wi : TI} {tt : TT} {te : TE} {vs : List Nat} (hv : ∀ i ∈ is, i ∈ vs) (n : ds.map (·.1) = N)
    (hg : GTS K t N is f)
    (hi : ∀ (S : Addr → Prop) (F0 H0 F H : Hp) (σ : L2.St), In K S F0 H0 F H M σ ds → ∀ Q : It → Hp → Prop,
      (∀ J xs F' H' M', Same F F' → In K S F0 H0 F' H' M' σ ds → ItD K J F' xs → (xs.length ≤ 1000000 ∧ ∃ G : Nat → List Dat → Prop, G 0 [] ∧
        (∀ D i x acc, xs[i]? = some x → G i acc → f (.d x) (wipeD ds vs) fun ds2 => ds2.map (·.1) = N → Wt K W0 tt ds2 (Acc M' D acc) (fun b M2 => M2 = Acc M' D acc ∧
          if b = true then We K W0 te ds2 (Acc M' D acc) (fun dv M3 => M3 = Acc M' D acc ∧ ∃ d, dv = .d d ∧ G (i + 1) (acc ++ [d])) (fun _ _ => False) else G (i + 1) acc) (fun _ _ => False)) ∧
        ∀ acc, G xs.length acc → R (.d (.lst acc)) M') → Q J H') →
      (∀ cls F' H' M', Same F F' → In K S F0 H0 F' H' M' σ ds → Xp cls M' → W cls none σ H') → wi σ H Q) :
    We K W (tLc wi t tt te vs) ds M R Xp := fun S F0 H0 F H σ I Q q x => by
  refine hi S F0 H0 F H σ I _ ?_ x
  rintro J xs F1 H1 M1 s1 I1 it ⟨hz, G, g0, turn, done⟩ D hD
  have start : In K S F0 H0 F1 (upd H1 D (.lst [])) (Acc M1 D []) σ ds := I1.newM hD (.lst .nil)
  refine ⟨fun i m H' => m = xs.length - i ∧ i ≤ xs.length ∧ ∃ F' acc, Same F1 F' ∧ acc.length ≤ i ∧ In K S F0 H0 F' H' (Acc M1 D acc) σ ds ∧ G i acc, ⟨xs.length, by simp, Nat.zero_le _, F1, [], .refl _, Nat.le_refl _, start, g0⟩, ?_⟩
  rintro i m H' ⟨rfl, hle, F', acc, s', hacc, I', g'⟩
  obtain ⟨i1, i2, i3⟩ := it F' H' s' I'.fh i
  by_cases hlt : i < xs.length
  · refine .inr ⟨i1 hlt, fun H2 => ∃ F' acc, Same F1 F' ∧ acc.length ≤ i + 1 ∧ In K S F0 H0 F' H2 (Acc M1 D acc) σ ds ∧ G (i + 1) acc, fun H2 ⟨F', acc, a, b, c, d⟩ => ⟨xs.length - (i + 1), by omega, rfl, hlt, F', acc, a, b, c, d⟩, fun y H2 yld => ?_⟩
    obtain ⟨F2, xx, ex, hx, rx⟩ := i3 y H2 yld hlt
    have I2 := (I'.ext ex).slots (env_wipe (I'.ext ex).env vs)
    have s2 := s'.trans ex.ff
    refine hg.does S F0 H0 F2 H2 _ _ _ y _ _ _ ((wipeD_names ds vs).trans n) I2 (VOk.dat rx) (turn D i xx acc hx g') fun σ3 ds3 I3 n3 q3 c3 => ?_
    have hw : wipe σ3 vs = wipe σ vs := by
      rw [wipe_same (σ := wipe σ vs) (by rw [I3.env.len, I2.env.len]; exact (by have z := congrArg List.length n3; simpa using z)) (fun j hj => c3 j fun z => hj (hv j z)), wipe_twice]
    refine ⟨hw, ?_⟩
    have I3e : ∀ {F4 H4 : Hp} {M4 : Mem}, Same F2 F4 → In K S F0 H0 F4 H4 M4 σ3 ds3 → In K S F0 H0 F4 H4 M4 σ ds := fun s4 I4 => I4.slots ((I'.env.mono ex.ff).mono s4)
    refine q3 ((n3.trans (wipeD_names ds vs)).trans n) S F0 H0 F2 H2 σ3 I3 _ ?_ fun _ _ _ _ _ _ z => z.elim
    rintro b F4 H4 M4 s4 I4 ⟨rfl, g4⟩
    cases b with
    | false =>
      rw [if_neg Bool.false_ne_true] at g4 ⊢
      exact ⟨F4, acc, s2.trans s4, by omega, I3e s4 I4, g4⟩
    | true =>
      rw [if_pos rfl] at g4 ⊢
      refine g4 S F0 H0 F4 H4 σ3 I4 _ ?_ fun _ _ _ _ _ _ z => z.elim
      rintro u F5 H5 M5 dv s5 I5 o5 ⟨rfl, d, rfl, g5⟩
      obtain ⟨ws, hD5, hl5, I6⟩ := lc_turn I5 o5
      refine ⟨ws, hD5, ?_, F5, acc ++ [d], (s2.trans s4).trans s5, by rw [List.length_append, List.length_singleton]; omega, I3e (s4.trans s5) I6, g5⟩
      rw [hl5]
      have : (1000000 : Nat) < sizeLine := by decide
      omega
  · have e : i = xs.length := by omega
    subst e
    refine .inl ⟨i2 (Nat.le_refl _), ?_⟩
    have hm : (Acc M1 D acc)[M1.length]? = some (D, MO.lst (acc.map DV.d)) := by simp [Acc]
    have nf := (I'.mem _ (List.mem_of_getElem? hm)).1
    obtain ⟨_, o, ho, ok⟩ := I'.mem _ (List.mem_of_getElem? hm)
    have n0 : H0 D = none := by
      cases z : H0 D with
      | none => rfl
      | some u =>
        obtain ⟨u', hu⟩ := I1.there D u z
        rw [hD] at hu
        cases hu
    have sF : Same F' (upd F' D o) := fun b u e => by rw [upd_ne (ne_of_none e nf)]; exact e
    have nd' := I'.nd
    cases ok with
    | @lst ws _ l =>
      have J : In K S F0 H0 (upd F' D (.lst ws)) H' M1 σ ds := by
        refine ⟨I'.env.mono sF, I'.ff.trans sF, fun b u e => ?_, fun b u e f => ?_, I'.keep, I'.there, fun e he => ?_, fun e he => I'.own e (List.mem_append_left _ he), ?_⟩
        · by_cases hb : b = D
          · subst hb
            rw [upd_same] at e
            cases e
            exact ho
          · rw [upd_ne hb] at e
            exact I'.fh b u e
        · by_cases hb : b = D
          · subst hb
            exact n0
          · rw [upd_ne hb] at e
            exact I'.new b u e f
        · obtain ⟨h1, u, h2, h3⟩ := I'.mem e (List.mem_append_left _ he)
          refine ⟨?_, u, h2, h3.mono sF⟩
          have ne : e.1 ≠ D := by
            obtain ⟨_, u', hu', _⟩ := I1.mem e he
            exact ne_of_none hu' hD
          rw [upd_ne ne]
          exact h1
        · rw [List.map_append] at nd'
          exact (List.nodup_append.mp nd').1
      exact q (.ref D) _ H' M1 (.d (.lst acc)) ((s1.trans s').trans sF) J (VOk.dat (.lst upd_same (l.to_data.mono sF))) (done acc g')
theorem bk_pe (X : Cx) (scope : Scope) (e : Expr) : BK X scope fun Y => PE Y e (bE X scope e) := fun s H C cl fp => ⟨fun pins s' σ H' Q I h => h s H C cl fp pins s' I⟩
theorem bk_pt (X : Cx) (scope : Scope) (e : Expr) : BK X scope fun Y => PT Y e (bT X scope e) := fun s H C cl fp => ⟨fun pins s' σ H' Q I h => h s H C cl fp pins s' I⟩
section
variable {elt tg iter cond : Expr} {scope : Scope} {own : List (Str × Nat)} {t : TG} {is : List Nat} {f : DV → Slots → (Slots → Prop) → Prop}
/-- what is asked of the turns of a comprehension without tests -/
def Lc (X : Cx) (scope : Scope) (vs : List Nat) (f : DV → Slots → (Slots → Prop) → Prop) (elt : Expr) (ds : Slots) (R : DV → Mem → Prop) (xs : List Dat) (M1 : Mem) : Prop := xs.length ≤ 1000000 ∧ ∃ G : Nat → List Dat → Prop, G 0 [] ∧
  (∀ D i x acc, xs[i]? = some x → G i acc → f (.d x) (wipeD ds vs) fun ds2 => BK X scope fun Y => HE Y W0 elt ds2 (Acc M1 D acc) (fun dv M3 => M3 = Acc M1 D acc ∧ ∃ d, dv = .d d ∧ G (i + 1) (acc ++ [d])) (fun _ _ => False)) ∧
  ∀ acc, G xs.length acc → R (.d (.lst acc)) M1
theorem we_tYes {K : PySem.W.Frag} {R : Bool → Mem → Prop} (h : R true M) : Wt K W tYes ds M R Xp := fun S F0 H0 F H σ I Q q x => q true F H M (.refl _) I h
/-- a comprehension without tests, however its worth goes on -/
def HLC (X : Cx) (W : WX) (elt tg iter : Expr) (scope : Scope) (own : List (Str × Nat)) (t : TG) (ds : Slots) (M : Mem) (R : DV → Mem → Prop) (Xp : Value → Mem → Prop) : Prop := X.N = ds.map (·.1) → ∃ wi, PI X tg iter wi ∧ We X.K W (tLc wi t tYes (bE X scope elt) (own.map (·.2))) ds M R Xp
theorem hlc_of (hv : ∀ i ∈ is, i ∈ own.map (·.2)) (hg : GTS X.K t X.N is f) (hi : HI X W tg iter ds M (Lc X scope (own.map (·.2)) f elt ds R) Xp) : HLC X W elt tg iter scope own t ds M R Xp := fun n => by
  obtain ⟨wi, pi, hw⟩ := hi n
  refine ⟨wi, pi, ?_⟩
  refine we_lc (N := X.N) hv n.symm hg fun S F0 H0 F H σ I Q q x => ?_
  refine hw S F0 H0 F H σ I Q (fun J xs F1 H1 M1 s1 I1 it lc => q J xs F1 H1 M1 s1 I1 it ?_) x
  obtain ⟨hz, G, g0, turn, done⟩ := lc
  refine ⟨hz, G, g0, fun D i x acc hx g => ?_, done⟩
  refine hg.mono _ _ _ _ (fun ds2 h n2 => we_tYes ⟨rfl, ?_⟩) (turn D i x acc hx g)
  rw [if_pos rfl]
  exact fun S F0 H0 F H' σ I Q q x s H C cl fp => h s H C cl fp n2.symm S F0 H0 F H' σ I Q q x
theorem he_hlc (hc : X.calm = true) (nd : X.N.Nodup) (ok : BlkOk X.N X.env.scope scope own) (hgp : BK X scope fun Y => PG Y tg t) (h : HLC X W elt tg iter scope own t ds M R Xp) (hs : ∀ x, foldedSetIterable iter X.env x = pure x := by intro _; with_unfolding_all rfl) :
    HE X W (.ListComp elt [⟨tg, iter, [], 0⟩] scope pos) ds M R Xp := fun n => by
  obtain ⟨wi, pi, hw⟩ := h n
  exact he_of (pe_lc hc nd pi ok hgp (fun _ _ _ _ _ => pts_nil) (bk_pe X scope elt) hs) (fun _ => hw) n
theorem hs_hlc {pn : Slots → Mem → Prop} {pr : DV → Mem → Prop} {pb pc : Slots → Mem → Prop} {px : Value → Slots → Mem → Prop} {x : Str} {i : Nat} {V L G B : List Str} {p spos : Pos} (k : Kx X V L G B) (m : Mm L x) (pl : (ds.map (·.1))[i]? = some x)
    (hc : X.calm = true) (ok : BlkOk X.N X.env.scope scope own) (hgp : BK X scope fun Y => PG Y tg t) (h : HLC X W elt tg iter scope own t ds M (fun dv M1 => ∃ ds', Up ds x dv ds' i ∧ pn ds' M1) (fun cls M1 => px cls ds M1)) (hk : X.env.scope.kind = .function) (hyl : X.env.scope.names.lookup x = some .local)
    (hl : (p.line == pos.line) = true) (ha : (scope.names.any fun (n, k) => n == x && (k == .local || k == .cell)) = false)
    (hs : ∀ x, foldedSetIterable iter X.env x = pure x := by intro _; with_unfolding_all rfl) :
    HS X W (.Assign [.Name x p] (.ListComp elt [⟨tg, iter, [], 0⟩] scope pos) spos) ds M ⟨pn, pr, pb, pc, px⟩ := fun n => by
  obtain ⟨wi, pi, hw⟩ := h n
  refine hs_of (ps_setLc (i := i) hc k.nd (by rw [n]; exact pl) hyl (sw_true hk hyl hl ha) pi ok hgp (fun _ _ _ _ _ => pts_nil) (bk_pe X scope elt) hs) (fun _ S F0 H0 F H σ D I g1 g2 g3 g4 g5 => ?_) n
  exact hw S F0 H0 F H σ I _ (fun v F1 H1 M1 dv s1 I1 o1 ⟨ds', u, q1⟩ => g1 F1 H1 M1 _ ds' s1 (I1.slots (u.set I1.env o1)) u.names q1) fun cls F1 H1 M1 s1 I1 q1 => g5 cls F1 H1 M1 σ ds s1 I1 rfl q1
theorem he_lc (hc : X.calm = true) (nd : X.N.Nodup) (ok : BlkOk X.N X.env.scope scope own) (hv : ∀ i ∈ is, i ∈ own.map (·.2)) (hgp : BK X scope fun Y => PG Y tg t) (hg : GTS X.K t X.N is f)
    (hi : HI X W tg iter ds M (Lc X scope (own.map (·.2)) f elt ds R) Xp) (hs : ∀ x, foldedSetIterable iter X.env x = pure x := by intro _; with_unfolding_all rfl) : HE X W (.ListComp elt [⟨tg, iter, [], 0⟩] scope pos) ds M R Xp :=
  he_hlc hc nd ok hgp (hlc_of hv hg hi) hs
/-- with a test -/
def LcIf (X : Cx) (scope : Scope) (vs : List Nat) (f : DV → Slots → (Slots → Prop) → Prop) (cond elt : Expr) (ds : Slots) (R : DV → Mem → Prop) (xs : List Dat) (M1 : Mem) : Prop := xs.length ≤ 1000000 ∧ ∃ G : Nat → List Dat → Prop, G 0 [] ∧
  (∀ D i x acc, xs[i]? = some x → G i acc → f (.d x) (wipeD ds vs) fun ds2 => ∃ b, (BK X scope fun Y => HT Y W0 cond ds2 (Acc M1 D acc) (fun b' M2 => b' = b ∧ M2 = Acc M1 D acc) (fun _ _ => False)) ∧
    if b = true then BK X scope fun Y => HE Y W0 elt ds2 (Acc M1 D acc) (fun dv M3 => M3 = Acc M1 D acc ∧ ∃ d, dv = .d d ∧ G (i + 1) (acc ++ [d])) (fun _ _ => False) else G (i + 1) acc) ∧
  ∀ acc, G xs.length acc → R (.d (.lst acc)) M1
theorem he_lcIf (hc : X.calm = true) (nd : X.N.Nodup) (ok : BlkOk X.N X.env.scope scope own) (hv : ∀ i ∈ is, i ∈ own.map (·.2)) (hgp : BK X scope fun Y => PG Y tg t) (hg : GTS X.K t X.N is f)
    (hi : HI X W tg iter ds M (LcIf X scope (own.map (·.2)) f cond elt ds R) Xp) (hs : ∀ x, foldedSetIterable iter X.env x = pure x := by intro _; with_unfolding_all rfl) : HE X W (.ListComp elt [⟨tg, iter, [cond], 0⟩] scope pos) ds M R Xp := fun n => by
  obtain ⟨wi, pi, hw⟩ := hi n
  refine he_of (pe_lc hc nd pi ok hgp (fun s H C cl fp => pts_one (bk_pt X scope cond s H C cl fp)) (bk_pe X scope elt) hs) (fun n => ?_) n
  refine we_lc (N := X.N) hv n.symm hg fun S F0 H0 F H σ I Q q x => ?_
  refine hw S F0 H0 F H σ I Q (fun J xs F1 H1 M1 s1 I1 it lc => q J xs F1 H1 M1 s1 I1 it ?_) x
  obtain ⟨hz, G, g0, turn, done⟩ := lc
  refine ⟨hz, G, g0, fun D i x acc hx g => ?_, done⟩
  refine hg.mono _ _ _ _ (fun ds2 h n2 => ?_) (turn D i x acc hx g)
  obtain ⟨b, hb, he⟩ := h
  intro S F0 H0 F H' σ I Q q x s H C cl fp
  refine hb s H C cl fp n2.symm S F0 H0 F H' σ I Q ?_ x
  rintro b' F' H2 M' s' I' ⟨rfl, rfl⟩
  refine q b' F' H2 _ s' I' ⟨rfl, ?_⟩
  cases b' with
  | false =>
    rw [if_neg Bool.false_ne_true] at he ⊢
    exact he
  | true =>
    rw [if_pos rfl] at he ⊢
    exact fun S F0 H0 F H' σ I Q q x s H C cl fp => he s H C cl fp n2.symm S F0 H0 F H' σ I Q q x
end
end
end CS

/-! CsKx: the names of a context, by one look at the scope. -/
namespace CS
open PySem L2

def isLC (o : Option NameKind) : Bool := match o with
  | some .local => true
  | some .cell => true
  | _ => false
def isLCF (o : Option NameKind) : Bool := match o with
  | some .local => true
  | some .cell => true
  | some .free => true
  | _ => false
def isGI (o : Option NameKind) : Bool := match o with
  | some .globalImplicit => true
  | _ => false
def isL (o : Option NameKind) : Bool := match o with
  | some .local => true
  | _ => false
theorem lc_of {sc : Scope} {x : Str} (h : isLC (sc.names.lookup x) = true) : Loc sc x := by
  unfold isLC at h
  split at h
  · exact .inl (by assumption)
  · exact .inr (by assumption)
  · cases h
theorem lcf_of {sc : Scope} {x : Str} (h : isLCF (sc.names.lookup x) = true) : Vis sc x := by
  unfold isLCF at h
  split at h
  · exact .inl (by assumption)
  · exact .inr (.inl (by assumption))
  · exact .inr (.inr (by assumption))
  · cases h
theorem gi_of {o : Option NameKind} (h : isGI o = true) : o = some .globalImplicit := by
  unfold isGI at h
  split at h
  · rfl
  · cases h
theorem l_of {o : Option NameKind} (h : isL o = true) : o = some .local := by
  unfold isL at h
  split at h
  · rfl
  · cases h
/-- names that are plain -/
def plainN (x : Str) : Bool := !(x == ("__debug__" : Str)) && !(x == ("__classdict__" : Str)) && !(x == ("__name__" : Str))
def kxB (sc : Scope) (N V L G B BB : List Str) (all : Bool) : Bool :=
  decide N.Nodup && V.all (fun x => isLCF (sc.names.lookup x) && plainN x) && L.all (fun x => isLC (sc.names.lookup x) && (all || isL (sc.names.lookup x))) &&
    G.all (fun x => isGI (sc.names.lookup x) && plainN x) && B.all (fun x => isGI (sc.names.lookup x) && plainN x && decide (x ∈ BB))
theorem plain_of {x : Str} (h : plainN x = true) : (x == ("__debug__" : Str)) = false ∧ (x == ("__classdict__" : Str)) = false ∧ x ≠ "__name__" := by
  unfold plainN at h
  simp only [Bool.and_eq_true, Bool.not_eq_true'] at h
  exact ⟨h.1.1, h.1.2, fun e => by rw [e] at h; simp at h⟩
theorem kx_of {X : Cx} {sc : Scope} {N V L G B BB : List Str} (h : kxB sc N V L G B BB true = true) (hs : X.env.scope = sc) (hN : X.N = N) (hf : X.fn = fun _ => true) (hm : ∀ x ∈ BB, X.mg x = none) : Kx X V L G B := by
  unfold kxB at h
  simp only [Bool.and_eq_true, decide_eq_true_eq, List.all_eq_true] at h
  obtain ⟨⟨⟨⟨h1, h2⟩, h3⟩, h4⟩, h5⟩ := h
  refine ⟨by rw [hN]; exact h1, fun x hx => ?_, fun x hx => ?_, fun x hx => ?_, fun x hx => ?_⟩
  · obtain ⟨a, b⟩ := h2 x hx
    obtain ⟨b1, b2, _⟩ := plain_of b
    rw [hs]
    exact ⟨lcf_of a, b1, b2⟩
  · obtain ⟨a, b⟩ := h4 x hx
    refine ⟨?_, (plain_of b).1⟩
    show X.env.scope.names.lookup x = _
    rw [hs]
    exact gi_of a
  · obtain ⟨⟨a, b⟩, c⟩ := h5 x hx
    obtain ⟨b1, b2, b3⟩ := plain_of b
    refine ⟨?_, hm x c, b3, b1⟩
    show X.env.scope.names.lookup x = _
    rw [hs]
    exact gi_of a
  · obtain ⟨a, b⟩ := h3 x hx
    rw [hs]
    exact ⟨lc_of a, .inl (by rw [hf])⟩
/-- a comprehension's scope as its block sees it -/
def relS (sc : Scope) (scope : Scope) : Scope :=
  { scope with names := scope.names.map fun (n, k) => if (k == .free && sc.kind == .function && sc.names.lookup n == some .cell) then (n, .cell) else (n, k) }
theorem kx_blk {X : Cx} {sc scope : Scope} {N V L G B BB : List Str} (h : kxB (relS sc scope) N V L G B BB false = true) (hs : X.env.scope = sc) (hN : X.N = N) (hm : ∀ x ∈ BB, X.mg x = none) : BK X scope fun Y => Kx Y V L G B := by
  intro s H C cl fp
  have e : (X.blk s H scope (compEnvC scope cl C X.env) fp).env.scope = relS sc scope := by
    rw [← hs]
    rfl
  unfold kxB at h
  simp only [Bool.and_eq_true, decide_eq_true_eq, List.all_eq_true, Bool.false_or] at h
  obtain ⟨⟨⟨⟨h1, h2⟩, h3⟩, h4⟩, h5⟩ := h
  refine ⟨?_, fun x hx => ?_, fun x hx => ?_, fun x hx => ?_, fun x hx => ?_⟩
  · show X.N.Nodup
    rw [hN]; exact h1
  · obtain ⟨a, b⟩ := h2 x hx
    obtain ⟨b1, b2, _⟩ := plain_of b
    rw [e]
    exact ⟨lcf_of a, b1, b2⟩
  · obtain ⟨a, b⟩ := h4 x hx
    refine ⟨?_, (plain_of b).1⟩
    show (X.blk s H scope (compEnvC scope cl C X.env) fp).env.scope.names.lookup x = _
    rw [e]
    exact gi_of a
  · obtain ⟨⟨a, b⟩, c⟩ := h5 x hx
    obtain ⟨b1, b2, b3⟩ := plain_of b
    refine ⟨?_, hm x c, b3, b1⟩
    show (X.blk s H scope (compEnvC scope cl C X.env) fp).env.scope.names.lookup x = _
    rw [e]
    exact gi_of a
  · obtain ⟨a, b⟩ := h3 x hx
    rw [e]
    exact ⟨lc_of a, .inr (l_of b)⟩
theorem iteT_of {c A B : Prop} [Decidable c] (hc : c) (h : A) : if c then A else B := by rw [if_pos hc]; exact h
theorem iteF_of {c A B : Prop} [Decidable c] (hc : ¬ c) (h : B) : if c then A else B := by rw [if_neg hc]; exact h
end CS

/-! CsRules: the rules in the form that the walk uses, and a def's body. -/
namespace CS
open PySem L2

inductive Pl : Slots → Str → Nat → Prop
  | here {x : Str} {w : DV} {r : Slots} : Pl ((x, w) :: r) x 0
  | there {x y : Str} {w : DV} {r : Slots} {i : Nat} : Pl r x i → Pl ((y, w) :: r) x (i + 1)
theorem Pl.name : ∀ {ds : Slots} {x : Str} {i : Nat}, Pl ds x i → (ds.map (·.1))[i]? = some x
  | _, _, _, .here => rfl
  | _, _, _, .there h => by
    rw [List.map_cons, List.getElem?_cons_succ]
    exact h.name

section
variable {X : Cx} {W : WX} {e a b c : Expr} {es : List Expr} {ds : Slots} {M : Mem} {R : DV → Mem → Prop} {Xp : Value → Mem → Prop} {pos p2 : Pos} {V L G B : List Str}
variable {pn : Slots → Mem → Prop} {pr : DV → Mem → Prop} {pb pc : Slots → Mem → Prop} {px : Value → Slots → Mem → Prop}
theorem r_set {x : Str} {i : Nat} {p : Pos} (k : Kx X V L G B) (pl : Pl ds x i) (m : Mm L x) (h : HE X W e ds M (fun dv M1 => ∃ ds', Up ds x dv ds' i ∧ pn ds' M1) (fun cls M1 => px cls ds M1)) (hs : swapsWith e (some (.Name x p)) pos.line X.env = pure false := by with_unfolding_all rfl) :
    HS X W (.Assign [.Name x p] e pos) ds M ⟨pn, pr, pb, pc, px⟩ := fun n =>
  hs_of (ps_set (i := i) k.nd (by rw [n]; exact pl.name) (k.st x m.mem).1 (pe_t X e) hs (k.st x m.mem).2) (fun _ S F0 H0 F H σ D I g1 g2 g3 g4 g5 =>
    h n S F0 H0 F H σ I _ (fun v F1 H1 M1 dv s1 I1 o1 ⟨ds', u, q1⟩ => g1 F1 H1 M1 _ ds' s1 (I1.slots (u.set I1.env o1)) u.names q1) fun cls F1 H1 M1 s1 I1 q1 => g5 cls F1 H1 M1 σ ds s1 I1 rfl q1) n
theorem r_name {x : Str} {dv : DV} {i : Nat} (k : Kx X V L G B) (l : Lk ds x dv i) (m : Mm V x) (hd : dv ≠ .no) (h : R dv M) : HE X W (.Name x pos) ds M R Xp := he_name k l m hd h
theorem r_nameD {x : Str} {d : Dat} {i : Nat} (k : Kx X V L G B) (l : Lk ds x (.d d) i) (m : Mm V x) (h : R (.d d) M) : HE X W (.Name x pos) ds M R Xp := he_name k l m (fun z => by cases z) h
theorem r_nameM {x : Str} {d : Addr} {i : Nat} (k : Kx X V L G B) (l : Lk ds x (.m d) i) (m : Mm V x) (h : R (.m d) M) : HE X W (.Name x pos) ds M R Xp := he_name k l m (fun z => by cases z) h
/-- a module's int -/
theorem r_globI {x : Str} {i : Int} {t : Tok} (k : Kx X V L G B) (m : Mm G x) (hm : X.mg x = some (.int i t)) (h : R (.d (.int i)) M) : HE X W (.Name x pos) ds M R Xp := he_glob (v := .int i) k m hm ⟨_, rfl⟩ (fun F => VOk.dat (.int i)) h
theorem r_sub (h : HE X W a ds M (fun x M1 => HE X W b ds M1 (fun y M2 => ∃ i j, x = .d (.int i) ∧ y = .d (.int j) ∧ R (.d (.int (i - j))) M2) Xp) Xp) : HE X W (.BinOp a .Sub b pos) ds M R Xp := he_sub h
theorem r_addI (h : HE X W a ds M (fun x M1 => HE X W b ds M1 (fun y M2 => ∃ i j, x = .d (.int i) ∧ y = .d (.int j) ∧ R (.d (.int (i + j))) M2) Xp) Xp) : HE X W (.BinOp a .Add b pos) ds M R Xp := he_addI h
theorem r_mul (h : HE X W a ds M (fun x M1 => HE X W b ds M1 (fun y M2 => ∃ i j, x = .d (.int i) ∧ y = .d (.int j) ∧ CMul i j ∧ R (.d (.int (i * j))) M2) Xp) Xp) : HE X W (.BinOp a .Mult b pos) ds M R Xp := he_mul h
theorem r_mod (h : HE X W a ds M (fun x M1 => HE X W b ds M1 (fun y M2 => ∃ i j, x = .d (.int i) ∧ y = .d (.int j) ∧ 0 < j ∧ R (.d (.int (i % j))) M2) Xp) Xp) : HE X W (.BinOp a .Mod b pos) ds M R Xp := he_mod h
theorem r_fdiv (h : HE X W a ds M (fun x M1 => HE X W b ds M1 (fun y M2 => ∃ i j, x = .d (.int i) ∧ y = .d (.int j) ∧ CDiv i j ∧ R (.d (.int (i / j))) M2) Xp) Xp) : HE X W (.BinOp a .FloorDiv b pos) ds M R Xp := he_fdiv h
theorem r_pow (h : HE X W a ds M (fun x M1 => HE X W b ds M1 (fun y M2 => ∃ i j, x = .d (.int i) ∧ y = .d (.int j) ∧ CPow i j ∧ R (.d (.int (i ^ j.toNat))) M2) Xp) Xp) : HE X W (.BinOp a .Pow b pos) ds M R Xp := he_pow h
theorem r_lt (h : HE X W a ds M (fun x M1 => HE X W b ds M1 (fun y M2 => ∃ i j, x = .d (.int i) ∧ y = .d (.int j) ∧ R (.d (.bl (decide (i < j)))) M2) Xp) Xp) : HE X W (.Compare a [.Lt] [b] pos) ds M R Xp := he_lt h
theorem r_le (h : HE X W a ds M (fun x M1 => HE X W b ds M1 (fun y M2 => ∃ i j, x = .d (.int i) ∧ y = .d (.int j) ∧ R (.d (.bl (decide (i ≤ j)))) M2) Xp) Xp) : HE X W (.Compare a [.LtE] [b] pos) ds M R Xp := he_le h
theorem r_gt (h : HE X W a ds M (fun x M1 => HE X W b ds M1 (fun y M2 => ∃ i j, x = .d (.int i) ∧ y = .d (.int j) ∧ R (.d (.bl (decide (j < i)))) M2) Xp) Xp) : HE X W (.Compare a [.Gt] [b] pos) ds M R Xp := he_gt h
theorem r_ge (h : HE X W a ds M (fun x M1 => HE X W b ds M1 (fun y M2 => ∃ i j, x = .d (.int i) ∧ y = .d (.int j) ∧ R (.d (.bl (decide (j ≤ i)))) M2) Xp) Xp) : HE X W (.Compare a [.GtE] [b] pos) ds M R Xp := he_ge h
section
variable {R : Bool → Mem → Prop}
theorem t_lt (h : HE X W a ds M (fun x M1 => HE X W b ds M1 (fun y M2 => ∃ i j, x = .d (.int i) ∧ y = .d (.int j) ∧ R (decide (i < j)) M2) Xp) Xp) : HT X W (.Compare a [.Lt] [b] pos) ds M R Xp := ht_lt h
theorem t_le (h : HE X W a ds M (fun x M1 => HE X W b ds M1 (fun y M2 => ∃ i j, x = .d (.int i) ∧ y = .d (.int j) ∧ R (decide (i ≤ j)) M2) Xp) Xp) : HT X W (.Compare a [.LtE] [b] pos) ds M R Xp := ht_le h
theorem t_gt (h : HE X W a ds M (fun x M1 => HE X W b ds M1 (fun y M2 => ∃ i j, x = .d (.int i) ∧ y = .d (.int j) ∧ R (decide (j < i)) M2) Xp) Xp) : HT X W (.Compare a [.Gt] [b] pos) ds M R Xp := ht_gt h
theorem t_ge (h : HE X W a ds M (fun x M1 => HE X W b ds M1 (fun y M2 => ∃ i j, x = .d (.int i) ∧ y = .d (.int j) ∧ R (decide (j ≤ i)) M2) Xp) Xp) : HT X W (.Compare a [.GtE] [b] pos) ds M R Xp := ht_ge h
end
/-- a[i]: what stands there -/
theorem r_ix (h : HE X W a ds M (fun x M1 => HE X W b ds M1 (fun y M2 => ∃ i d, y = .d (.int i) ∧ Ixd M2 x i d ∧ R d M2) Xp) Xp) (hs : ∀ o i, subscripted b false o i = operate [o, i] (getItem o i) := by intro _ _; with_unfolding_all rfl) : HE X W (.Subscript a b pos) ds M R Xp := he_ix h hs
theorem r_add (h : HE X W a ds M (fun x M1 => HE X W b ds M1 (fun y M2 => (∃ i j, x = .d (.int i) ∧ y = .d (.int j) ∧ R (.d (.int (i + j))) M2) ∨
    (∃ xs ys, LOf M2 x xs ∧ LOf M2 y ys ∧ xs.length + ys.length ≤ sizeLine ∧ R (.d (.lst (xs ++ ys))) M2) ∨ (∃ xs ys, x = .d (.tup xs) ∧ y = .d (.tup ys) ∧ xs ≠ [] ∧ xs.length + ys.length ≤ sizeLine ∧ R (.d (.tup (xs ++ ys))) M2) ∨
    (∃ s t, x = .d (.str s) ∧ y = .d (.str t) ∧ s.length + t.length ≤ sizeLine ∧ R (.d (.str (s ++ t))) M2)) Xp) Xp) : HE X W (.BinOp a .Add b pos) ds M R Xp := he_add h
/-- a slice's part left out -/
theorem o_none {R : Option Int → Mem → Prop} (h : R none M) : HO' X W none ds M R Xp := h
theorem o_some {R : Option Int → Mem → Prop} (h : HE X W e ds M (fun x M1 => ∃ i, x = .d (.int i) ∧ R (some i) M1) Xp) : HO' X W (some e) ds M R Xp := h
end

/-- a body at its entry -/
structure Bd (X : Cx) (P : Program) (w : World) (K : PySem.W.Frag) (mg : Str → Option Value) (base : Heap) (N : List Str) (st : Stmt) (d : Nat) (E : XK) : Prop where
  prog : X.prog = P
  ww : X.w = w
  kk : X.K = K
  mm : X.mg = mg
  bb : X.base = base
  nn : X.N = N
  sc : X.env.scope = defScope st
  fn : X.fn = fun _ => true
  calm : X.calm = true
  room : Rm d X.A
  pass : PassesOwn (model X.prog X.w) X.A X.env X.xe
  stk : X.stack = X.env :: X.outer
  frm : X.env.frame = some X.env.locals
/-- what a call's end wants at «return» -/
def Rt (o : Oc) (dv : DV) (M : Mem) : Prop := match o with
  | .val d => dv = .d d
  | .new xs => ∃ (p : Addr) (i : Nat), dv = .m p ∧ M[i]? = some (p, MO.lst (xs.map DV.d))
  | .exc _ => False
theorem rt_rfl {d : Dat} {M : Mem} : Rt (.val d) (.d d) M := rfl
theorem rt_eq {d e : Dat} {M : Mem} (h : d = e) : Rt (.val e) (.d d) M := by rw [h]; rfl
section
variable {P : Program} {w : World} {K : PySem.W.Frag} {mg : Str → Option Value} {base : Heap} {x qual : Str} {st : Stmt} {f : Addr} {fd : FuncData} {N ps : List Str} {d : Nat} {Rel : List Dat → Oc → Prop}
/-- a def over data that lets nothing out -/
theorem def0 (T : Fun K x qual st f fd) (S : FnScope N ps (defScope st)) (hps : ps.length ≤ N.length) (len : ∀ as o, Rel as o → as.length = ps.length)
    (body : ∀ (X : Cx) (E : XK) (as : List Dat) (o : Oc), Bd X P w K mg base N st d E → Rel as o → HSs X (fun c dd _ H => E c dd H) (defBody st) (zipD N as) [] ⟨fun _ _ => o = .val .non, Rt o, fun _ _ => False, fun _ _ => False, fun cls _ _ => o = .exc cls⟩) :
    FnR P w K mg base CX0 (d + 1) f fd ps (spD K Rel) := def_ok T S hps len fun cdv A outer s H E as o hr h =>
  body _ E as o ⟨rfl, rfl, rfl, rfl, rfl, rfl, rfl, rfl, rfl, hr, passes_of rfl, rfl, rfl⟩ h
/-- a def over data that may raise -/
theorem defX (T : Fun K x qual st f fd) (S : FnScope N ps (defScope st)) (hps : ps.length ≤ N.length) (len : ∀ as o, Rel as o → as.length = ps.length)
    (body : ∀ (X : Cx) (E : XK) (as : List Dat) (o : Oc), Bd X P w K mg base N st d E → Takes X (fun cls d _ H => E cls d H) → Rel as o → HSs X (fun c dd _ H => E c dd H) (defBody st) (zipD N as) [] ⟨fun _ _ => o = .val .non, Rt o, fun _ _ => False, fun _ _ => False, fun cls _ _ => o = .exc cls⟩) :
    FnR P w K mg base (L2.CX P w) (d + 1) f fd ps (spD K Rel) := def_ok T S hps len fun cdv A outer s H E as o hr h =>
  body _ E as o ⟨rfl, rfl, rfl, rfl, rfl, rfl, rfl, rfl, rfl, hr, passes_of rfl, rfl, rfl⟩ (takes_of rfl rfl rfl rfl) h
end
end CS

/-! CsEq: == of nested data. -/
namespace CS
open PySem L2

mutual
def Dat.py : Dat → PyData
  | .non => .none
  | .bl b => .bool b
  | .int i => .int i
  | .str s => .str s
  | .tup xs => .tuple (Dat.pyL xs)
  | .lst xs => .list (Dat.pyL xs)
  | .scr ns => .list (ns.map .int)
  | .dct _ => .dict []
def Dat.pyL : List Dat → List PyData
  | [] => []
  | x :: xs => Dat.py x :: Dat.pyL xs
end
mutual
/-- no dict, texts in order, at most n levels -/
def fits : Dat → Nat → Bool
  | .non, _ => true
  | .bl _, _ => true
  | .int _, _ => true
  | .str _, _ => true
  | .tup xs, n => (n != 0) && fitsL xs (n - 1)
  | .lst xs, n => (n != 0) && fitsL xs (n - 1)
  | .scr _, _ => false
  | .dct _, _ => false
def fitsL : List Dat → Nat → Bool
  | [], _ => true
  | x :: xs, n => fits x n && fitsL xs n
end
mutual
theorem fits_lay : ∀ (d : Dat) (n : Nat), fits d n = true → d.py.plain = true ∧ d.py.depth ≤ n
  | .non, n, _ => ⟨rfl, Nat.zero_le _⟩
  | .bl _, n, _ => ⟨rfl, Nat.zero_le _⟩
  | .int _, n, _ => ⟨rfl, Nat.zero_le _⟩
  | .str s, n, h => ⟨rfl, Nat.zero_le _⟩
  | .tup xs, n, h => by
    simp only [fits, Bool.and_eq_true, bne_iff_ne] at h
    obtain ⟨a, b⟩ := fits_layL xs (n - 1) h.2
    refine ⟨by simpa [Dat.py, PyData.plain] using a, ?_⟩
    simp only [Dat.py, PyData.depth]
    have := h.1
    omega
  | .lst xs, n, h => by
    simp only [fits, Bool.and_eq_true, bne_iff_ne] at h
    obtain ⟨a, b⟩ := fits_layL xs (n - 1) h.2
    refine ⟨by simpa [Dat.py, PyData.plain] using a, ?_⟩
    simp only [Dat.py, PyData.depth]
    have := h.1
    omega
theorem fits_layL : ∀ (xs : List Dat) (n : Nat), fitsL xs n = true → PyData.plainAll (Dat.pyL xs) = true ∧ PyData.depthAll (Dat.pyL xs) ≤ n
  | [], n, _ => ⟨rfl, Nat.zero_le _⟩
  | x :: xs, n, h => by
    simp only [fitsL, Bool.and_eq_true] at h
    obtain ⟨a, b⟩ := fits_lay x n h.1
    obtain ⟨c, d⟩ := fits_layL xs n h.2
    refine ⟨by simp [Dat.pyL, PyData.plainAll, a, c], ?_⟩
    simp only [Dat.pyL, PyData.depthAll]
    omega
end
theorem fitsL_all {xs : List Dat} {n : Nat} (h : ∀ x ∈ xs, fits x n = true) : fitsL xs n = true := by
  induction xs with
  | nil => rfl
  | cons x xs ih =>
    simp only [fitsL, Bool.and_eq_true]
    exact ⟨h x List.mem_cons_self, ih fun y hy => h y (List.mem_cons_of_mem _ hy)⟩
mutual
theorem fits_mono : ∀ (d : Dat) {n m : Nat}, n ≤ m → fits d n = true → fits d m = true
  | .non, _, _, _, _ => rfl
  | .bl _, _, _, _, _ => rfl
  | .int _, _, _, _, _ => rfl
  | .str s, _, _, _, h => h
  | .tup xs, n, m, l, h => by
    simp only [fits, Bool.and_eq_true, bne_iff_ne] at h ⊢
    exact ⟨by omega, fitsL_mono xs (by omega) h.2⟩
  | .lst xs, n, m, l, h => by
    simp only [fits, Bool.and_eq_true, bne_iff_ne] at h ⊢
    exact ⟨by omega, fitsL_mono xs (by omega) h.2⟩
theorem fitsL_mono : ∀ (xs : List Dat) {n m : Nat}, n ≤ m → fitsL xs n = true → fitsL xs m = true
  | [], _, _, _, _ => rfl
  | x :: xs, n, m, l, h => by
    simp only [fitsL, Bool.and_eq_true] at h ⊢
    exact ⟨fits_mono x l h.1, fitsL_mono xs l h.2⟩
end
section
variable {K : PySem.W.Frag} {F H : Hp}
mutual
theorem Rp.dp (s : Same F H) : ∀ (d : Dat) (n : Nat) (v : V), fits d n = true → Rp K F v d → Dp K H v d.py
  | .non, _, _, _, .non => .non
  | .bl _, _, _, _, .bl b => .bl b
  | .int _, _, _, _, .int i => .int i
  | .str _, _, _, _, .str x => .str x
  | .tup xs, n, _, h, .tup hF r => by
    simp only [fits, Bool.and_eq_true] at h
    exact .tup (.of (s _ _ hF)) (Rp.dpL s xs (n - 1) _ h.2 r)
  | .lst xs, n, _, h, .lst hF r => by
    simp only [fits, Bool.and_eq_true] at h
    exact .lst (.of (s _ _ hF)) (Rp.dpL s xs (n - 1) _ h.2 r)
theorem Rp.dpL (s : Same F H) : ∀ (xs : List Dat) (n : Nat) (vs : List V), fitsL xs n = true → RpL K F vs xs → DpAll K H vs (Dat.pyL xs)
  | [], _, _, _, .nil => .nil
  | x :: xs, n, _, h, .cons a r => by
    simp only [fitsL, Bool.and_eq_true] at h
    exact .cons (Rp.dp s x n _ h.1 a) (Rp.dpL s xs n _ h.2 r)
end
theorem eqv_same {d : Dat} (h : fits d 64 = true) : PyData.eqv d.py d.py = true := SeqAt.eqv_refl_plain _ (fits_lay d 64 h).1
/-- == over data, whatever the texts -/
def rEqP (K : PySem.W.Frag) (neg : Bool) : R2 := fun x y H Q => ∃ d e, Dp K H x d ∧ Dp K H y e ∧ d.plain = true ∧ e.plain = true ∧ d.depth ≤ 64 ∧ Q (.bl (if neg then !PyData.eqv d e else PyData.eqv d e)) H
theorem op_eqP {X : Cx} (hu : X.A.units + 64 < cLine) : OpR X (compareOp .Eq) (rEqP X.K false) := by
  rintro pins s σ H x y v u Q I rx ry ⟨d, e, hd, he, p1, p2, dp, q⟩
  obtain ⟨as, r1⟩ := Dp.reads I d x v hd rx
  obtain ⟨bs, r2⟩ := Dp.reads I e y u he ry
  exact SeqAt.eq_plain r1 r2 p1 p2 (by have : min d.depth e.depth ≤ d.depth := Nat.min_le_left _ _; omega) ⟨.bl _, H, I, rfl, q⟩
theorem op_neP {X : Cx} (hu : X.A.units + 64 < cLine) : OpR X (compareOp .NotEq) (rEqP X.K true) := by
  rintro pins s σ H x y v u Q I rx ry ⟨d, e, hd, he, p1, p2, dp, q⟩
  obtain ⟨as, r1⟩ := Dp.reads I d x v hd rx
  obtain ⟨bs, r2⟩ := Dp.reads I e y u he ry
  exact SeqAt.ne_plain r1 r2 p1 p2 (by have : min d.depth e.depth ≤ d.depth := Nat.min_le_left _ _; omega) ⟨.bl _, H, I, rfl, q⟩
theorem od_eqD {neg : Bool} : OD K (rEqP K neg) (fun a b M R => ∃ d e, a = .d d ∧ b = .d e ∧ fits d 64 = true ∧ fits e 64 = true ∧ R (.d (.bl (if neg then !PyData.eqv d.py e.py else PyData.eqv d.py e.py))) M) := by
  rintro S F0 H0 F H M σ ds a b v w R Q I oa ob ⟨d, e, rfl, rfl, h1, h2, h⟩ q
  exact ⟨d.py, e.py, Rp.dp I.fh d 64 v h1 oa, Rp.dp I.fh e 64 w h2 ob, (fits_lay d 64 h1).1, (fits_lay e 64 h2).1, (fits_lay d 64 h1).2, q _ F H M _ (.refl _) I (VOk.dat (.bl _)) h⟩
end
section
variable {X : Cx} {W : WX} {a b : Expr} {ds : Slots} {M : Mem} {Xp : Value → Mem → Prop} {pos : Pos} {d : Nat}
/-- the two sides are the same data -/
theorem he_eqS {R : DV → Mem → Prop} (hr : Rm d X.A) (h : HE X W a ds M (fun x M1 => HE X W b ds M1 (fun y M2 => ∃ d, x = .d d ∧ y = .d d ∧ fits d 64 = true ∧ R (.d (.bl true)) M2) Xp) Xp) : HE X W (.Compare a [.Eq] [b] pos) ds M R Xp :=
  he_cmp (op_eqP hr.units) od_eqD (he_imp h fun _ _ q => he_imp q fun _ _ ⟨d, e1, e2, f, q⟩ => ⟨d, d, e1, e2, f, f, by simp only [eqv_same f]; exact q⟩) (nomark _)
theorem he_neS {R : DV → Mem → Prop} (hr : Rm d X.A) (h : HE X W a ds M (fun x M1 => HE X W b ds M1 (fun y M2 => ∃ d, x = .d d ∧ y = .d d ∧ fits d 64 = true ∧ R (.d (.bl false)) M2) Xp) Xp) : HE X W (.Compare a [.NotEq] [b] pos) ds M R Xp :=
  he_cmp (op_neP hr.units) od_eqD (he_imp h fun _ _ q => he_imp q fun _ _ ⟨d, e1, e2, f, q⟩ => ⟨d, d, e1, e2, f, f, by simp only [eqv_same f]; exact q⟩) (nomark _)
theorem ht_eqS {R : Bool → Mem → Prop} (hr : Rm d X.A) (h : HE X W a ds M (fun x M1 => HE X W b ds M1 (fun y M2 => ∃ d, x = .d d ∧ y = .d d ∧ fits d 64 = true ∧ R true M2) Xp) Xp) : HT X W (.Compare a [.Eq] [b] pos) ds M R Xp :=
  ht_cmp (op_eqP hr.units) od_eqD (he_imp h fun _ _ q => he_imp q fun _ _ ⟨d, e1, e2, f, q⟩ => ⟨d, d, e1, e2, f, f, true, by simp only [eqv_same f]; rfl, q⟩) (nomark _)
theorem ht_neS {R : Bool → Mem → Prop} (hr : Rm d X.A) (h : HE X W a ds M (fun x M1 => HE X W b ds M1 (fun y M2 => ∃ d, x = .d d ∧ y = .d d ∧ fits d 64 = true ∧ R false M2) Xp) Xp) : HT X W (.Compare a [.NotEq] [b] pos) ds M R Xp :=
  ht_cmp (op_neP hr.units) od_eqD (he_imp h fun _ _ q => he_imp q fun _ _ ⟨d, e1, e2, f, q⟩ => ⟨d, d, e1, e2, f, f, false, by simp only [eqv_same f]; rfl, q⟩) (nomark _)
end
end CS

/-! CsMore: isinstance against built-in types, join. -/
namespace CS
open PySem L2
inductive TyD : Dat → String → Prop
  | non : TyD .non "NoneType"
  | int (i : Int) : TyD (.int i) "int"
  | bl (i : Bool) : TyD (.bl i) "bool"
  | str (i : Str) : TyD (.str i) "str"
  | lst (i : List Dat) : TyD (.lst i) "list"
  | tup (i : List Dat) : TyD (.tup i) "tuple"
  | dct (i : List (Key × Dat)) : TyD (.dct i) "dict"
section
variable {X : Cx} {W : WX} {e a b o : Expr} {es : List Expr} {ds : Slots} {M : Mem} {R : DV → Mem → Prop} {Xp : Value → Mem → Prop} {pos p2 p3 apos : Pos} {V L G B : List Str}
theorem tyx_of {K : PySem.W.Frag} {F H : Hp} {v : L2.V} {d : Dat} {n : String} (s : Same F H) (h : TyD d n) (r : Rp K F v d) : TyX K H v (.type n) := by
  cases h with
  | non => cases r; exact .base .non
  | int i => cases r; exact .base (.int i)
  | bl i => cases r; exact .base (.bl i)
  | str i => cases r; exact .base (.str i)
  | lst i =>
    cases r with
    | lst hF _ => exact .base (.lst (s _ _ hF))
  | tup i =>
    cases r with
    | tup hF _ => exact .base (.tup (s _ _ hF))
  | dct i =>
    cases r with
    | dct hF _ => exact .base (.dK (s _ _ hF))
theorem r_isi {T : String} (k : Kx X V L G B) (m : Mm B "isinstance") (m2 : Mm B (Str.ofString T)) (hv : bootBuiltins (Str.ofString T) = some (.type T)) (h : HE X W e ds M (fun x M1 => ∃ d nm b, x = .d d ∧ TyD d nm ∧ kitB nm T = some b ∧ R (.d (.bl b)) M1) Xp)
    (he : starEach (e :: [.Name (Str.ofString T) p3]) X.env = (false, eval e X.env) :: starEach [.Name (Str.ofString T) p3] X.env := by with_unfolding_all rfl) (hpl : (backTo pos (starEach [.Name (Str.ofString T) p3] X.env)).any (·.1) = false := by with_unfolding_all rfl) :
    HE X W (.Call (.Name "isinstance" p2) [e, .Name (Str.ofString T) p3] [] pos) ds M R Xp :=
  he_of (pe_callB call_isi (k.bl _ m.mem).1 (k.bl _ m.mem).2.1 (by decide +kernel) (pa_cons (pe_t X e) (pa_cons (pe_bltn (v := .ty T) (k.bl _ m2.mem).1 (k.bl _ m2.mem).2.1 hv rfl (k.bl _ m2.mem).2.2.1 (k.bl _ m2.mem).2.2.2) pa_nil rfl) he) (k.bl _ m.mem).2.2.1 (k.bl _ m.mem).2.2.2 he hpl)
    fun n S F0 H0 F H σ I Q q x => h n S F0 H0 F H σ I _ (fun v F1 H1 M1 dv s1 I1 o1 g1 => by
      obtain ⟨d, nm, b, rfl, ht, hk, g⟩ := g1
      exact ⟨v, .ty T, .type nm, .type T, b, rfl, .ty T, tyx_of I1.fh ht o1, kit_ty hk, q _ F1 H1 M1 _ s1 I1 (VOk.dat (.bl b)) g⟩) x
/-- sep.join(a list of texts) -/
theorem r_join (h : HE X W o ds M (fun x M1 => ∃ a : Str, x = .d (.str a) ∧ HE X W e ds M1 (fun y M2 => ∃ ys : List Str, LOf M2 y (ys.map .str) ∧ (ys.map (·.length)).sum + ys.length * a.length ≤ 16777216 ∧ R (.d (.str (Txt.join a ys))) M2) Xp) Xp)
    (hs : starEach [e] X.env = [(false, eval e X.env)] := by with_unfolding_all rfl) (hbase : attributeBase o "join" X.env (eval o X.env) = eval o X.env := by with_unfolding_all rfl) (hline : (apos.endLine == pos.line) = true := by with_unfolding_all rfl) :
    HE X W (.Call (.Attribute o "join" apos) [e] [] pos) ds M R Xp := he_of (pe_join (pe_t X o) (pe_t X e) hs hbase hline) fun n S F0 H0 F H σ I Q q x =>
  h n S F0 H0 F H σ I _ (fun v F1 H1 M1 dv s1 I1 o1 g1 => by
    obtain ⟨a, rfl, g⟩ := g1
    cases o1
    refine ⟨⟨a, rfl⟩, g n S F0 H0 F1 H1 σ I1 _ (fun w F2 H2 M2 dw s2 I2 o2 g2 => ?_) fun cls F2 H2 M2 s2 I2 g2 => x cls F2 H2 M2 (s1.trans s2) I2 g2⟩
    obtain ⟨ys, hl, hz, g⟩ := g2
    obtain ⟨p, vs, rfl, hp, r⟩ := hl.get I2 o2
    have e := r.str_inv
    subst e
    exact ⟨a, p, ys, rfl, rfl, .inl (.of hp), hz, q _ F2 H2 M2 _ (s1.trans s2) I2 (VOk.dat (.str _)) g⟩) x
end
end CS

/-! CsStep: one step of the walk, found by instances. -/
namespace CS
open PySem L2

/-- to show g it is enough to show n -/
class Step (g : Prop) (n : outParam Prop) : Prop where
  imp : n → g

/-! ### forms of expressions -/
class NS (e : Expr) : Prop where
  h : ∀ es env, starEach (e :: es) env = (false, eval e env) :: starEach es env
instance {a b} : NS (.Name a b) := ⟨fun _ _ => rfl⟩
instance {a b c} : NS (.Constant a b c) := ⟨fun _ _ => rfl⟩
instance {a b c d} : NS (.BinOp a b c d) := ⟨fun _ _ => rfl⟩
instance {a b c} : NS (.UnaryOp a b c) := ⟨fun _ _ => rfl⟩
instance {a b c} : NS (.BoolOp a b c) := ⟨fun _ _ => rfl⟩
instance {a b c d} : NS (.Compare a b c d) := ⟨fun _ _ => rfl⟩
instance {a b c d} : NS (.Call a b c d) := ⟨fun _ _ => rfl⟩
instance {a b c} : NS (.Attribute a b c) := ⟨fun _ _ => rfl⟩
instance {a b c} : NS (.Subscript a b c) := ⟨fun _ _ => rfl⟩
instance {a b} : NS (.List a b) := ⟨fun _ _ => rfl⟩
instance {a b c} : NS (.Tuple a b c) := ⟨fun _ _ => rfl⟩
instance {a b c} : NS (.Dict a b c) := ⟨fun _ _ => rfl⟩
instance {a b c d} : NS (.ListComp a b c d) := ⟨fun _ _ => rfl⟩
class NSs (es : List Expr) : Prop where
  h : ∀ env, (starEach es env).all (fun p => !p.1) = true
instance : NSs [] := ⟨fun _ => rfl⟩
instance {e : Expr} {es : List Expr} [a : NS e] [b : NSs es] : NSs (e :: es) := ⟨fun env => by rw [a.h, List.all_cons, b.h]; rfl⟩
theorem NSs.back {es : List Expr} (h : NSs es) (pos : Pos) (env : Env) : (backTo pos (starEach es env)).any (·.1) = false := by
  have q := h.h env
  generalize starEach es env = l at q
  induction l with
  | nil => rfl
  | cons p l ih =>
    rw [List.all_cons, Bool.and_eq_true] at q
    have ih' := ih q.2
    unfold backTo at ih' ⊢
    rw [List.map_cons, List.any_cons, ih', Bool.or_false]
    simpa using q.1
class NC (e : Expr) : Prop where
  h : ∀ t l env, swapsWith e t l env = pure false
instance {a b} : NC (.Name a b) := ⟨fun _ _ _ => rfl⟩
instance {a b c} : NC (.Constant a b c) := ⟨fun _ _ _ => rfl⟩
instance {a b c d} : NC (.BinOp a b c d) := ⟨fun _ _ _ => rfl⟩
instance {a b c} : NC (.UnaryOp a b c) := ⟨fun _ _ _ => rfl⟩
instance {a b c} : NC (.BoolOp a b c) := ⟨fun _ _ _ => rfl⟩
instance {a b c d} : NC (.Compare a b c d) := ⟨fun _ _ _ => rfl⟩
instance {a b c d} : NC (.Call a b c d) := ⟨fun _ _ _ => rfl⟩
instance {a b c} : NC (.Attribute a b c) := ⟨fun _ _ _ => rfl⟩
instance {a b c} : NC (.Subscript a b c) := ⟨fun _ _ _ => rfl⟩
instance {a b} : NC (.List a b) := ⟨fun _ _ _ => rfl⟩
instance {a b c} : NC (.Tuple a b c) := ⟨fun _ _ _ => rfl⟩
instance {a b c} : NC (.Dict a b c) := ⟨fun _ _ _ => rfl⟩
class PT' (e : Expr) : Prop where
  h : ∀ env whole, isTrue e env whole = (do let v ← whole; standAt e.pos; holding [v] (truthy v))
instance {a b} : PT' (.Name a b) := ⟨fun _ _ => rfl⟩
instance {a b c d} : PT' (.Call a b c d) := ⟨fun _ _ => rfl⟩
instance {a b c} : PT' (.Attribute a b c) := ⟨fun _ _ => rfl⟩
instance {a b c} : PT' (.Subscript a b c) := ⟨fun _ _ => rfl⟩
class PX' (e : Expr) : Prop where
  h : ∀ o i, subscripted e false o i = operate [o, i] (getItem o i)
instance {a b} : PX' (.Name a b) := ⟨fun _ _ => rfl⟩
instance {a b c} : PX' (.Constant a b c) := ⟨fun _ _ => rfl⟩
instance {a b c d} : PX' (.BinOp a b c d) := ⟨fun _ _ => rfl⟩
instance {a b c} : PX' (.UnaryOp a b c) := ⟨fun _ _ => rfl⟩
instance {a b c d} : PX' (.Call a b c d) := ⟨fun _ _ => rfl⟩
instance {a b c} : PX' (.Subscript a b c) := ⟨fun _ _ => rfl⟩
instance {a b c} : PX' (.Attribute a b c) := ⟨fun _ _ => rfl⟩
class Few (es : List Expr) (n : Nat) : Prop where
  h : es.length ≤ n
instance {n : Nat} : Few [] n := ⟨Nat.zero_le _⟩
instance {e : Expr} {es : List Expr} {n : Nat} [a : Few es n] : Few (e :: es) (n + 1) := ⟨Nat.succ_le_succ a.h⟩

/-! ### looking up -/
class LkC (ds : Slots) (x : Str) (dv : outParam DV) : Prop where
  h : ∃ i, Lk ds x dv i
instance (priority := high) {x : Str} {v : DV} {r : Slots} : LkC ((x, v) :: r) x v := ⟨0, .here⟩
instance {x y : Str} {v w : DV} {r : Slots} [a : LkC r x v] : LkC ((y, w) :: r) x v := ⟨a.h.elim fun i h => ⟨i + 1, .there h⟩⟩
class UpC (ds : Slots) (x : Str) (dv : DV) (i : Nat) (es : outParam Slots) : Prop where
  h : Up ds x dv es i
instance (priority := high) {x : Str} {v w : DV} {r : Slots} : UpC ((x, w) :: r) x v 0 ((x, v) :: r) := ⟨.here⟩
instance {x y : Str} {v w : DV} {r s : Slots} {i : Nat} [a : UpC r x v i s] : UpC ((y, w) :: r) x v (i + 1) ((y, w) :: s) := ⟨.there a.h⟩
class PlC (ds : Slots) (x : Str) (i : outParam Nat) : Prop where
  h : Pl ds x i
instance (priority := high) {x : Str} {w : DV} {r : Slots} : PlC ((x, w) :: r) x 0 := ⟨.here⟩
instance {x y : Str} {w : DV} {r : Slots} {i : Nat} [a : PlC r x i] : PlC ((y, w) :: r) x (i + 1) := ⟨.there a.h⟩
class MmC (l : List Str) (x : Str) : Prop where
  h : Mm l x
instance (priority := high) {x : Str} {r : List Str} : MmC (x :: r) x := ⟨.here⟩
instance {x y : Str} {r : List Str} [a : MmC r x] : MmC (y :: r) x := ⟨.there a.h⟩
/-- the names of a context, as an instance -/
class Kc (X : Cx) (V L G B : outParam (List Str)) : Prop where
  k : Kx X V L G B
class Rc (X : Cx) : Prop where
  h : ∃ d, Rm d X.A
class Cc (X : Cx) : Prop where
  h : X.calm = true
class AtC (xs : List Dat) (n : Nat) (d : outParam Dat) : Prop where
  h : xs[n]? = some d
instance (priority := high) {d : Dat} {xs : List Dat} : AtC (d :: xs) 0 d := ⟨rfl⟩
instance {d e : Dat} {xs : List Dat} {n : Nat} [a : AtC xs n d] : AtC (e :: xs) (n + 1) d := ⟨by rw [List.getElem?_cons_succ]; exact a.h⟩
class AllC (l : List DV) (r : outParam (List Dat)) : Prop where
  h : AllD l r
instance : AllC [] [] := ⟨.nil⟩
instance {d : Dat} {l : List DV} {r : List Dat} [a : AllC l r] : AllC (.d d :: l) (d :: r) := ⟨.cons a.h⟩

section
variable {X : Cx} {W : WX} {e a b c o : Expr} {es : List Expr} {ds : Slots} {M : Mem} {R : DV → Mem → Prop} {Xp : Value → Mem → Prop} {pos p2 apos : Pos} {V L G B : List Str}
variable {pn : Slots → Mem → Prop} {pr : DV → Mem → Prop} {pb pc : Slots → Mem → Prop} {px : Value → Slots → Mem → Prop}

/-! ### names and constants -/
instance {x : Str} {d : Dat} [k : Kc X V L G B] [l : LkC ds x (.d d)] [m : MmC V x] : Step (HE X W (.Name x pos) ds M R Xp) (R (.d d) M) := ⟨fun h => l.h.elim fun i l => r_nameD k.k l m.h h⟩
instance {x : Str} {d : Addr} [k : Kc X V L G B] [l : LkC ds x (.m d)] [m : MmC V x] : Step (HE X W (.Name x pos) ds M R Xp) (R (.m d) M) := ⟨fun h => l.h.elim fun i l => r_nameM k.k l m.h h⟩
instance {i : Int} {j : Nat} : Step (HE X W (.Constant (.int i) j pos) ds M R Xp) (R (.d (.int i)) M) := ⟨he_int⟩
instance {i : Str} {j : Nat} : Step (HE X W (.Constant (.str i) j pos) ds M R Xp) (R (.d (.str i)) M) := ⟨he_str⟩
instance {i : Bool} {j : Nat} : Step (HE X W (.Constant (.bool i) j pos) ds M R Xp) (R (.d (.bl i)) M) := ⟨he_bool⟩
instance {j : Nat} : Step (HE X W (.Constant .none j pos) ds M R Xp) (R (.d .non) M) := ⟨he_none⟩
/-- a constant of the module -/
class GcI (X : Cx) (x : Str) (i : outParam Int) : Prop where
  h : ∃ t, X.mg x = some (.int i t)
instance (priority := low) {x : Str} {i : Int} [k : Kc X V L G B] [m : MmC G x] [g : GcI X x i] : Step (HE X W (.Name x pos) ds M R Xp) (R (.d (.int i)) M) := ⟨fun h => g.h.elim fun t hm => r_globI k.k m.h hm h⟩

/-! ### operators -/
def I2 (x y : DV) (k : Int → Int → Prop) : Prop := ∃ i j, x = .d (.int i) ∧ y = .d (.int j) ∧ k i j
instance {i j : Int} {k : Int → Int → Prop} : Step (I2 (.d (.int i)) (.d (.int j)) k) (k i j) := ⟨fun h => ⟨i, j, rfl, rfl, h⟩⟩
instance : Step (HE X W (.BinOp a .Sub b pos) ds M R Xp) (HE X W a ds M (fun x M1 => HE X W b ds M1 (fun y M2 => I2 x y fun i j => R (.d (.int (i - j))) M2) Xp) Xp) := ⟨r_sub⟩
instance : Step (HE X W (.BinOp a .Mod b pos) ds M R Xp) (HE X W a ds M (fun x M1 => HE X W b ds M1 (fun y M2 => I2 x y fun i j => 0 < j ∧ R (.d (.int (i % j))) M2) Xp) Xp) := ⟨r_mod⟩
instance : Step (HE X W (.BinOp a .FloorDiv b pos) ds M R Xp) (HE X W a ds M (fun x M1 => HE X W b ds M1 (fun y M2 => I2 x y fun i j => CDiv i j ∧ R (.d (.int (i / j))) M2) Xp) Xp) := ⟨r_fdiv⟩
instance : Step (HE X W (.BinOp a .Pow b pos) ds M R Xp) (HE X W a ds M (fun x M1 => HE X W b ds M1 (fun y M2 => I2 x y fun i j => CPow i j ∧ R (.d (.int (i ^ j.toNat))) M2) Xp) Xp) := ⟨r_pow⟩
/-- a * b: ints -/
def MulP (x y : DV) (M : Mem) (R : DV → Mem → Prop) : Prop := (∃ i j, x = .d (.int i) ∧ y = .d (.int j) ∧ CMul i j ∧ R (.d (.int (i * j))) M) ∨ ∃ xs k, LOf M x xs ∧ y = .d (.int k) ∧ -(2 ^ 63) ≤ k ∧ k < 2 ^ 63 ∧ xs.length * k.toNat ≤ sizeLine ∧ R (.d (.lst (List.replicate k.toNat xs).flatten)) M
instance : Step (HE X W (.BinOp a .Mult b pos) ds M R Xp) (HE X W a ds M (fun x M1 => HE X W b ds M1 (fun y M2 => MulP x y M2 R) Xp) Xp) :=
  ⟨fun h => he_bin (OpR.or op_mul op_rep) ((od_I fun F i j => .int _).or od_rep) h⟩
instance {i j : Int} : Step (MulP (.d (.int i)) (.d (.int j)) M R) (CMul i j ∧ R (.d (.int (i * j))) M) := ⟨fun h => .inl ⟨i, j, rfl, rfl, h⟩⟩
instance {xs : List Dat} {k : Int} : Step (MulP (.d (.lst xs)) (.d (.int k)) M R) ((-(2 ^ 63) ≤ k ∧ k < 2 ^ 63 ∧ xs.length * k.toNat ≤ sizeLine) ∧ R (.d (.lst (List.replicate k.toNat xs).flatten)) M) := ⟨fun h => .inr ⟨xs, k, .dat, rfl, h.1.1, h.1.2.1, h.1.2.2, h.2⟩⟩
/-- a + b -/
def AddP (x y : DV) (M : Mem) (R : DV → Mem → Prop) : Prop := (∃ i j, x = .d (.int i) ∧ y = .d (.int j) ∧ R (.d (.int (i + j))) M) ∨
    (∃ xs ys, LOf M x xs ∧ LOf M y ys ∧ xs.length + ys.length ≤ sizeLine ∧ R (.d (.lst (xs ++ ys))) M) ∨ (∃ xs ys, x = .d (.tup xs) ∧ y = .d (.tup ys) ∧ xs ≠ [] ∧ xs.length + ys.length ≤ sizeLine ∧ R (.d (.tup (xs ++ ys))) M) ∨
    (∃ s t, x = .d (.str s) ∧ y = .d (.str t) ∧ s.length + t.length ≤ sizeLine ∧ R (.d (.str (s ++ t))) M)
instance : Step (HE X W (.BinOp a .Add b pos) ds M R Xp) (HE X W a ds M (fun x M1 => HE X W b ds M1 (fun y M2 => AddP x y M2 R) Xp) Xp) := ⟨r_add⟩
instance {i j : Int} : Step (AddP (.d (.int i)) (.d (.int j)) M R) (R (.d (.int (i + j))) M) := ⟨fun h => .inl ⟨i, j, rfl, rfl, h⟩⟩
instance {xs ys : List Dat} : Step (AddP (.d (.lst xs)) (.d (.lst ys)) M R) (xs.length + ys.length ≤ sizeLine ∧ R (.d (.lst (xs ++ ys))) M) := ⟨fun h => .inr (.inl ⟨xs, ys, .dat, .dat, h⟩)⟩
instance {x : Dat} {xs ys : List Dat} : Step (AddP (.d (.tup (x :: xs))) (.d (.tup ys)) M R) ((x :: xs).length + ys.length ≤ sizeLine ∧ R (.d (.tup (x :: xs ++ ys))) M) := ⟨fun h => .inr (.inr (.inl ⟨x :: xs, ys, rfl, rfl, by simp, h⟩))⟩
instance {s t : Str} : Step (AddP (.d (.str s)) (.d (.str t)) M R) (s.length + t.length ≤ sizeLine ∧ R (.d (.str (s ++ t))) M) := ⟨fun h => .inr (.inr (.inr ⟨s, t, rfl, rfl, h⟩))⟩
def I1 (x : DV) (k : Int → Prop) : Prop := ∃ i, x = .d (.int i) ∧ k i
instance {i : Int} {k : Int → Prop} : Step (I1 (.d (.int i)) k) (k i) := ⟨fun h => ⟨i, rfl, h⟩⟩
instance : Step (HE X W (.UnaryOp .USub a pos) ds M R Xp) (HE X W a ds M (fun x M1 => I1 x fun i => R (.d (.int (-i))) M1) Xp) := ⟨he_neg⟩

/-! ### comparisons -/
instance : Step (HE X W (.Compare a [.Lt] [b] pos) ds M R Xp) (HE X W a ds M (fun x M1 => HE X W b ds M1 (fun y M2 => I2 x y fun i j => R (.d (.bl (decide (i < j)))) M2) Xp) Xp) := ⟨r_lt⟩
instance : Step (HE X W (.Compare a [.LtE] [b] pos) ds M R Xp) (HE X W a ds M (fun x M1 => HE X W b ds M1 (fun y M2 => I2 x y fun i j => R (.d (.bl (decide (i ≤ j)))) M2) Xp) Xp) := ⟨r_le⟩
instance : Step (HE X W (.Compare a [.Gt] [b] pos) ds M R Xp) (HE X W a ds M (fun x M1 => HE X W b ds M1 (fun y M2 => I2 x y fun i j => R (.d (.bl (decide (j < i)))) M2) Xp) Xp) := ⟨r_gt⟩
instance : Step (HE X W (.Compare a [.GtE] [b] pos) ds M R Xp) (HE X W a ds M (fun x M1 => HE X W b ds M1 (fun y M2 => I2 x y fun i j => R (.d (.bl (decide (j ≤ i)))) M2) Xp) Xp) := ⟨r_ge⟩
instance {R : Bool → Mem → Prop} : Step (HT X W (.Compare a [.Lt] [b] pos) ds M R Xp) (HE X W a ds M (fun x M1 => HE X W b ds M1 (fun y M2 => I2 x y fun i j => R (decide (i < j)) M2) Xp) Xp) := ⟨t_lt⟩
instance {R : Bool → Mem → Prop} : Step (HT X W (.Compare a [.LtE] [b] pos) ds M R Xp) (HE X W a ds M (fun x M1 => HE X W b ds M1 (fun y M2 => I2 x y fun i j => R (decide (i ≤ j)) M2) Xp) Xp) := ⟨t_le⟩
instance {R : Bool → Mem → Prop} : Step (HT X W (.Compare a [.Gt] [b] pos) ds M R Xp) (HE X W a ds M (fun x M1 => HE X W b ds M1 (fun y M2 => I2 x y fun i j => R (decide (j < i)) M2) Xp) Xp) := ⟨t_gt⟩
instance {R : Bool → Mem → Prop} : Step (HT X W (.Compare a [.GtE] [b] pos) ds M R Xp) (HE X W a ds M (fun x M1 => HE X W b ds M1 (fun y M2 => I2 x y fun i j => R (decide (j ≤ i)) M2) Xp) Xp) := ⟨t_ge⟩
def EqP (x y : DV) (k : Bool → Prop) : Prop := ∃ b, SEq x y b ∧ k b
instance {i j : Int} {k : Bool → Prop} : Step (EqP (.d (.int i)) (.d (.int j)) k) (k (decide (i = j))) := ⟨fun h => ⟨_, .int i j, h⟩⟩
instance {i j : Str} {k : Bool → Prop} : Step (EqP (.d (.str i)) (.d (.str j)) k) (k (decide (i = j))) := ⟨fun h => ⟨_, .str i j, h⟩⟩
instance {i j : Bool} {k : Bool → Prop} : Step (EqP (.d (.bl i)) (.d (.bl j)) k) (k (decide (i = j))) := ⟨fun h => ⟨_, .bl i j, h⟩⟩
instance {i : Int} {j : Str} {k : Bool → Prop} : Step (EqP (.d (.int i)) (.d (.str j)) k) (k false) := ⟨fun h => ⟨_, .is i j, h⟩⟩
instance {i : Str} {j : Int} {k : Bool → Prop} : Step (EqP (.d (.str i)) (.d (.int j)) k) (k false) := ⟨fun h => ⟨_, .si i j, h⟩⟩
/-- == by scalars, or by data (the same on both sides) -/
def EqQ (X : Cx) (x y : DV) (k : Bool → Prop) : Prop := (∃ b, SEq x y b ∧ k b) ∨ ∃ d, x = .d d ∧ y = .d d ∧ fits d 64 = true ∧ k true
theorem eqQ_he {R : DV → Mem → Prop} {d : Nat} (hr : Rm d X.A) (h : HE X W a ds M (fun x M1 => HE X W b ds M1 (fun y M2 => EqQ X x y fun z => R (.d (.bl z)) M2) Xp) Xp) : HE X W (.Compare a [.Eq] [b] pos) ds M R Xp := by
  refine he_cmp (OpR.or op_eq (op_eqP hr.units)) (od_eq.or od_eqD) (he_imp h fun _ _ q => he_imp q fun _ _ z => ?_) (nomark _)
  rcases z with ⟨b, s, q⟩ | ⟨d, e1, e2, f, q⟩
  · exact .inl (s.no _ false q)
  · exact .inr ⟨d, d, e1, e2, f, f, by simp only [eqv_same f]; exact q⟩
theorem neQ_he {R : DV → Mem → Prop} {d : Nat} (hr : Rm d X.A) (h : HE X W a ds M (fun x M1 => HE X W b ds M1 (fun y M2 => EqQ X x y fun z => R (.d (.bl (!z))) M2) Xp) Xp) : HE X W (.Compare a [.NotEq] [b] pos) ds M R Xp := by
  refine he_cmp (OpR.or op_ne (op_neP hr.units)) (od_ne.or od_eqD) (he_imp h fun _ _ q => he_imp q fun _ _ z => ?_) (nomark _)
  rcases z with ⟨b, s, q⟩ | ⟨d, e1, e2, f, q⟩
  · exact .inl (s.no _ true q)
  · exact .inr ⟨d, d, e1, e2, f, f, by simp only [eqv_same f]; exact q⟩
theorem eqQ_ht {R : Bool → Mem → Prop} {d : Nat} (hr : Rm d X.A) (h : HE X W a ds M (fun x M1 => HE X W b ds M1 (fun y M2 => EqQ X x y fun z => R z M2) Xp) Xp) : HT X W (.Compare a [.Eq] [b] pos) ds M R Xp := by
  refine ht_cmp (OpR.or op_eq (op_eqP hr.units)) (od_eq.or od_eqD) (he_imp h fun _ _ q => he_imp q fun _ _ z => ?_) (nomark _)
  rcases z with ⟨b, s, q⟩ | ⟨d, e1, e2, f, q⟩
  · exact .inl (s.no _ false ⟨_, rfl, q⟩)
  · exact .inr ⟨d, d, e1, e2, f, f, true, by simp only [eqv_same f]; rfl, q⟩
theorem neQ_ht {R : Bool → Mem → Prop} {d : Nat} (hr : Rm d X.A) (h : HE X W a ds M (fun x M1 => HE X W b ds M1 (fun y M2 => EqQ X x y fun z => R (!z) M2) Xp) Xp) : HT X W (.Compare a [.NotEq] [b] pos) ds M R Xp := by
  refine ht_cmp (OpR.or op_ne (op_neP hr.units)) (od_ne.or od_eqD) (he_imp h fun _ _ q => he_imp q fun _ _ z => ?_) (nomark _)
  rcases z with ⟨b, s, q⟩ | ⟨d, e1, e2, f, q⟩
  · exact .inl (s.no _ true ⟨_, rfl, q⟩)
  · exact .inr ⟨d, d, e1, e2, f, f, false, by simp only [eqv_same f]; rfl, q⟩
instance [r : Rc X] : Step (HE X W (.Compare a [.Eq] [b] pos) ds M R Xp) (HE X W a ds M (fun x M1 => HE X W b ds M1 (fun y M2 => EqQ X x y fun z => R (.d (.bl z)) M2) Xp) Xp) := ⟨fun h => r.h.elim fun _ hr => eqQ_he hr h⟩
instance [r : Rc X] : Step (HE X W (.Compare a [.NotEq] [b] pos) ds M R Xp) (HE X W a ds M (fun x M1 => HE X W b ds M1 (fun y M2 => EqQ X x y fun z => R (.d (.bl (!z))) M2) Xp) Xp) := ⟨fun h => r.h.elim fun _ hr => neQ_he hr h⟩
instance {R : Bool → Mem → Prop} [r : Rc X] : Step (HT X W (.Compare a [.Eq] [b] pos) ds M R Xp) (HE X W a ds M (fun x M1 => HE X W b ds M1 (fun y M2 => EqQ X x y fun z => R z M2) Xp) Xp) := ⟨fun h => r.h.elim fun _ hr => eqQ_ht hr h⟩
instance {R : Bool → Mem → Prop} [r : Rc X] : Step (HT X W (.Compare a [.NotEq] [b] pos) ds M R Xp) (HE X W a ds M (fun x M1 => HE X W b ds M1 (fun y M2 => EqQ X x y fun z => R (!z) M2) Xp) Xp) := ⟨fun h => r.h.elim fun _ hr => neQ_ht hr h⟩
instance {i j : Int} {k : Bool → Prop} : Step (EqQ X (.d (.int i)) (.d (.int j)) k) (k (decide (i = j))) := ⟨fun h => .inl ⟨_, .int i j, h⟩⟩
instance {i j : Str} {k : Bool → Prop} : Step (EqQ X (.d (.str i)) (.d (.str j)) k) (k (decide (i = j))) := ⟨fun h => .inl ⟨_, .str i j, h⟩⟩
instance {i j : Bool} {k : Bool → Prop} : Step (EqQ X (.d (.bl i)) (.d (.bl j)) k) (k (decide (i = j))) := ⟨fun h => .inl ⟨_, .bl i j, h⟩⟩
instance {i : Int} {j : Str} {k : Bool → Prop} : Step (EqQ X (.d (.int i)) (.d (.str j)) k) (k false) := ⟨fun h => .inl ⟨_, .is i j, h⟩⟩
instance {i : Str} {j : Int} {k : Bool → Prop} : Step (EqQ X (.d (.str i)) (.d (.int j)) k) (k false) := ⟨fun h => .inl ⟨_, .si i j, h⟩⟩
theorem eqQ_same {d : Dat} {k : Bool → Prop} (f : fits d 64 = true) (h : k true) : EqQ X (.d d) (.d d) k := .inr ⟨d, rfl, rfl, f, h⟩
instance {j : Nat} {p2 : Pos} : Step (HE X W (.Compare a [.Is] [.Constant .none j p2] pos) ds M R Xp) (HE X W a ds M (fun x M1 => ∃ d, x = .d d ∧ R (.d (.bl (match d with | .non => true | _ => false))) M1) Xp) := ⟨he_isN⟩

/-! ### tests -/
instance {op : BoolOp} {R : Bool → Mem → Prop} : Step (HT X W (.BoolOp op es pos) ds M R Xp) (HW X W (.BoolOp op es pos) ds M R Xp) := ⟨ht_w⟩
instance {R : Bool → Mem → Prop} : Step (HW X W (.BoolOp .And [a] pos) ds M R Xp) (HT X W a ds M R Xp) := ⟨hw_and1⟩
instance {R : Bool → Mem → Prop} : Step (HW X W (.BoolOp .Or [a] pos) ds M R Xp) (HT X W a ds M R Xp) := ⟨hw_or1⟩
instance {R : Bool → Mem → Prop} : Step (HW X W (.BoolOp .And (a :: b :: es) pos) ds M R Xp) (HT X W a ds M (fun k M1 => if k = true then HW X W (.BoolOp .And (b :: es) pos) ds M1 R Xp else R false M1) Xp) := ⟨hw_and⟩
instance {R : Bool → Mem → Prop} : Step (HW X W (.BoolOp .Or (a :: b :: es) pos) ds M R Xp) (HT X W a ds M (fun k M1 => if k = true then R true M1 else HW X W (.BoolOp .Or (b :: es) pos) ds M1 R Xp) Xp) := ⟨hw_or⟩
instance {R : Bool → Mem → Prop} : Step (HT X W (.UnaryOp .Not a pos) ds M R Xp) (HT X W a ds M (fun k M1 => R (!k) M1) Xp) := ⟨ht_not⟩
def B1 (x : DV) (k : Bool → Prop) : Prop := ∃ b, x = .d (.bl b) ∧ k b
instance {b : Bool} {k : Bool → Prop} : Step (B1 (.d (.bl b)) k) (k b) := ⟨fun h => ⟨b, rfl, h⟩⟩
instance (priority := low) {R : Bool → Mem → Prop} [p : PT' e] : Step (HT X W e ds M R Xp) (HE X W e ds M (fun z M1 => B1 z fun k => R k M1) Xp) := ⟨fun h => ht_val h (p.h X.env)⟩
instance {op : BoolOp} : Step (HE X W (.BoolOp op [a] pos) ds M R Xp) (HE X W a ds M R Xp) := ⟨he_one⟩
instance : Step (HE X W (.BoolOp .And (a :: b :: es) pos) ds M R Xp) (HE X W a ds M (fun z M1 => B1 z fun k => if k = true then HE X W (.BoolOp .And (b :: es) pos) ds M1 R Xp else R (.d (.bl false)) M1) Xp) := ⟨he_and⟩
instance : Step (HE X W (.BoolOp .Or (a :: b :: es) pos) ds M R Xp) (HE X W a ds M (fun z M1 => B1 z fun k => if k = true then R (.d (.bl true)) M1 else HE X W (.BoolOp .Or (b :: es) pos) ds M1 R Xp) Xp) := ⟨he_or⟩
instance : Step (HE X W (.UnaryOp .Not a pos) ds M R Xp) (HE X W a ds M (fun z M1 => B1 z fun k => R (.d (.bl (!k))) M1) Xp) := ⟨he_not⟩
instance {A B : Prop} : Step (if true = true then A else B) A := ⟨fun h => by rw [if_pos rfl]; exact h⟩
instance {A B : Prop} : Step (if false = true then A else B) B := ⟨fun h => by rw [if_neg Bool.false_ne_true]; exact h⟩
instance {A B : Prop} : Step (if (!true) = true then A else B) B := ⟨fun h => by rw [if_neg (by decide)]; exact h⟩
instance {A B : Prop} : Step (if (!false) = true then A else B) A := ⟨fun h => by rw [if_pos (by decide)]; exact h⟩
/-- two texts known to be one, or two -/
class SNe (s t : Str) : Prop where
  h : s ≠ t
instance {s : Str} {A B : Prop} : Step (if decide (s = s) = true then A else B) A := ⟨fun h => by rw [if_pos (by simp)]; exact h⟩
instance {s t : Str} {A B : Prop} [n : SNe s t] : Step (if decide (s = t) = true then A else B) B := ⟨fun h => by rw [if_neg (by simpa using n.h)]; exact h⟩
instance {s : Str} {A B : Prop} : Step (if (!decide (s = s)) = true then A else B) B := ⟨fun h => by rw [if_neg (by simp)]; exact h⟩
instance {s t : Str} {A B : Prop} [n : SNe s t] : Step (if (!decide (s = t)) = true then A else B) A := ⟨fun h => by rw [if_pos (by simpa using n.h)]; exact h⟩

/-! ### displays, subscripts, slices -/
def AllP (dvs : List DV) (k : List Dat → Prop) : Prop := ∃ as, AllD dvs as ∧ k as
instance {dvs : List DV} {as : List Dat} {k : List Dat → Prop} [a : AllC dvs as] : Step (AllP dvs k) (k as) := ⟨fun h => ⟨as, a.h, h⟩⟩
theorem wa_len {K : PySem.W.Frag} : ∀ {es : List Expr} {t : TA}, True := fun {_ _} => trivial
instance {R : List DV → Mem → Prop} : Step (HA X W [] ds M R Xp) (R [] M) := ⟨ha_nil⟩
instance {R : List DV → Mem → Prop} [s : NS e] : Step (HA X W (e :: es) ds M R Xp) (HE X W e ds M (fun d M1 => HA X W es ds M1 (fun dvs M2 => R (d :: dvs) M2) Xp) Xp) := ⟨fun h => ha_cons h (s.h es X.env)⟩
def IxP (M : Mem) (x y : DV) (k : DV → Prop) : Prop := ∃ i d, y = .d (.int i) ∧ Ixd M x i d ∧ k d
instance [p : PX' b] : Step (HE X W (.Subscript a b pos) ds M R Xp) (HE X W a ds M (fun x M1 => HE X W b ds M1 (fun y M2 => IxP M2 x y fun d => R d M2) Xp) Xp) := ⟨fun h => r_ix h p.h⟩
/-- a written place -/
class IntLit (i : Int) (n : outParam Nat) : Prop where
  h : i = (n : Int)
instance : IntLit 0 0 := ⟨rfl⟩
instance : IntLit 1 1 := ⟨rfl⟩
instance : IntLit 2 2 := ⟨rfl⟩
instance : IntLit 3 3 := ⟨rfl⟩
instance : IntLit 4 4 := ⟨rfl⟩
instance : IntLit 5 5 := ⟨rfl⟩
instance : IntLit 6 6 := ⟨rfl⟩
instance : IntLit 7 7 := ⟨rfl⟩
instance : IntLit 8 8 := ⟨rfl⟩
instance : IntLit 9 9 := ⟨rfl⟩
instance : IntLit 10 10 := ⟨rfl⟩
instance : IntLit 11 11 := ⟨rfl⟩
instance : IntLit 12 12 := ⟨rfl⟩
instance : IntLit 13 13 := ⟨rfl⟩
instance : IntLit 14 14 := ⟨rfl⟩
instance : IntLit 15 15 := ⟨rfl⟩
instance : IntLit 16 16 := ⟨rfl⟩
instance {i : Int} {xs : List Dat} {n : Nat} {d : Dat} {k : DV → Prop} [il : IntLit i n] [a : AtC xs n d] : Step (IxP M (.d (.tup xs)) (.d (.int i)) k) (k (.d d)) := ⟨fun h => ⟨_, _, rfl, .tup (by rw [il.h]; exact atI_nat a.h), h⟩⟩
instance {i : Int} {xs : List Dat} {n : Nat} {d : Dat} {k : DV → Prop} [il : IntLit i n] [a : AtC xs n d] : Step (IxP M (.d (.lst xs)) (.d (.int i)) k) (k (.d d)) := ⟨fun h => ⟨_, _, rfl, .lst (by rw [il.h]; exact atI_nat a.h), h⟩⟩
def SldP (M : Mem) (x : DV) (i j : Option Int) (k : Dat → Prop) : Prop := ∃ d, Sld M x i j d ∧ k d
theorem cutD_from (xs : List Dat) (n : Nat) : cutD xs (some (n : Int)) none = xs.drop n := by
  unfold cutD
  rw [HT.sIx_nat, HT.sIx_none]
  by_cases h : n ≤ xs.length
  · rw [Nat.min_eq_left h, List.take_of_length_le (by rw [List.length_drop]; omega)]
  · rw [Nat.min_eq_right (by omega), List.drop_of_length_le (Nat.le_refl _), List.drop_of_length_le (by omega), List.take_nil]
instance {x : Dat} {xs : List Dat} {k : Dat → Prop} : Step (SldP M (.d (.tup (x :: xs))) (some 1) none k) (k (.tup xs)) := ⟨fun h => by
  have e := cutD_from (x :: xs) 1
  refine ⟨.tup (cutD (x :: xs) (some 1) none), .tup (fun z => ?_), ?_⟩
  · have := z.1
    rw [show (1 : Int) = ((1 : Nat) : Int) from rfl, HT.sIx_nat, List.length_cons] at this
    omega
  · rw [show (1 : Int) = ((1 : Nat) : Int) from rfl, e]
    exact h⟩
instance {x y : Dat} {xs : List Dat} {k : Dat → Prop} : Step (SldP M (.d (.tup (x :: y :: xs))) (some 2) none k) (k (.tup xs)) := ⟨fun h => by
  have e := cutD_from (x :: y :: xs) 2
  refine ⟨.tup (cutD (x :: y :: xs) (some 2) none), .tup (fun z => ?_), ?_⟩
  · have := z.1
    rw [show (2 : Int) = ((2 : Nat) : Int) from rfl, HT.sIx_nat, List.length_cons, List.length_cons] at this
    omega
  · rw [show (2 : Int) = ((2 : Nat) : Int) from rfl, e]
    exact h⟩
instance {lo hi : Option Expr} : Step (HE X W (.Subscript a (.Slice lo hi none p2) pos) ds M R Xp) (HE X W a ds M (fun x M1 => HO' X W lo ds M1 (fun i M2 => HO' X W hi ds M2 (fun j M3 => SldP M3 x i j fun d => R (.d d) M3) Xp) Xp) Xp) := ⟨he_sl⟩
instance {R : Option Int → Mem → Prop} : Step (HO' X W none ds M R Xp) (R none M) := ⟨o_none⟩
instance {R : Option Int → Mem → Prop} : Step (HO' X W (some e) ds M R Xp) (HE X W e ds M (fun x M1 => I1 x fun i => R (some i) M1) Xp) := ⟨o_some⟩
end
end CS

/-! CsStep2: displays, calls, statements, by instances. -/
namespace CS
open PySem L2
class AllB (l : List DV) (r : outParam (List Dat)) (n : Nat) : Prop where
  h : AllD l r
  b : r.length ≤ n
instance {n : Nat} : AllB [] [] n := ⟨.nil, Nat.zero_le _⟩
instance {d : Dat} {l : List DV} {r : List Dat} {n : Nat} [a : AllB l r n] : AllB (.d d :: l) (d :: r) (n + 1) := ⟨.cons a.h, Nat.succ_le_succ a.b⟩
section
variable {X : Cx} {W : WX} {e a b c o : Expr} {es : List Expr} {ds : Slots} {M : Mem} {R : DV → Mem → Prop} {Xp : Value → Mem → Prop} {pos p p2 p3 apos : Pos} {V L G B : List Str}
variable {pn : Slots → Mem → Prop} {pr : DV → Mem → Prop} {pb pc : Slots → Mem → Prop} {px : Value → Slots → Mem → Prop}
def DisP (dvs : List DV) (k : List Dat → Prop) : Prop := ∃ as, AllD dvs as ∧ as.length ≤ 1000 ∧ k as
instance {dvs : List DV} {as : List Dat} {k : List Dat → Prop} [a : AllB dvs as 30] : Step (DisP dvs k) (k as) := ⟨fun h => ⟨as, a.h, Nat.le_trans a.b (by decide), h⟩⟩
instance {k : Nat} : Step (HE X W (.Tuple es k pos) ds M R Xp) (HA X W es ds M (fun dvs M1 => DisP dvs fun as => R (.d (.tup as)) M1) Xp) := ⟨he_tup⟩
instance : Step (HE X W (.List es pos) ds M R Xp) (HA X W es ds M (fun dvs M1 => DisP dvs fun as => R (.d (.lst as)) M1) Xp) := ⟨he_lst⟩

/-! ### built-ins -/
def LenP (M : Mem) (dvs : List DV) (k : Nat → Prop) : Prop := ∃ a n, dvs = [a] ∧ LenD M a n ∧ k n
instance [k : Kc X V L G B] [m : MmC B "len"] [s : NS e] : Step (HE X W (.Call (.Name "len" p) [e] [] pos) ds M R Xp) (HA X W [e] ds M (fun as M1 => LenP M1 as fun n => R (.d (.int n)) M1) Xp) := ⟨fun h => he_len k.k m.h h (s.h [] X.env) rfl⟩
instance {xs : List Dat} {k : Nat → Prop} : Step (LenP M [.d (.lst xs)] k) (k xs.length) := ⟨fun h => ⟨_, _, rfl, .lst, h⟩⟩
instance {xs : List Dat} {k : Nat → Prop} : Step (LenP M [.d (.tup xs)] k) (k xs.length) := ⟨fun h => ⟨_, _, rfl, .tup, h⟩⟩
instance {xs : List Int} {k : Nat → Prop} : Step (LenP M [.d (.scr xs)] k) (k xs.length) := ⟨fun h => ⟨_, _, rfl, .scr, h⟩⟩
def SeqP (M : Mem) (dvs : List DV) (k : List Dat → Prop) : Prop := ∃ a xs, dvs = [a] ∧ SeqD M a xs ∧ k xs
instance [k : Kc X V L G B] [m : MmC B "list"] [s : NS e] : Step (HE X W (.Call (.Name "list" p) [e] [] pos) ds M R Xp) (HA X W [e] ds M (fun as M1 => SeqP M1 as fun xs => R (.d (.lst xs)) M1) Xp) := ⟨fun h => he_list k.k m.h h (s.h [] X.env) rfl⟩
instance {xs : List Dat} {k : List Dat → Prop} : Step (SeqP M [.d (.lst xs)] k) (k xs) := ⟨fun h => ⟨_, _, rfl, .lst, h⟩⟩
instance {xs : List Dat} {k : List Dat → Prop} : Step (SeqP M [.d (.tup xs)] k) (k xs) := ⟨fun h => ⟨_, _, rfl, .tup, h⟩⟩
def LofP (M : Mem) (dvs : List DV) (k : List Dat → Prop) : Prop := ∃ a xs, dvs = [a] ∧ LOf M a xs ∧ k xs
instance [k : Kc X V L G B] [m : MmC B "tuple"] [s : NS e] : Step (HE X W (.Call (.Name "tuple" p) [e] [] pos) ds M R Xp) (HA X W [e] ds M (fun as M1 => LofP M1 as fun xs => R (.d (.tup xs)) M1) Xp) := ⟨fun h => he_tupleB k.k m.h h (s.h [] X.env) rfl⟩
instance {xs : List Dat} {k : List Dat → Prop} : Step (LofP M [.d (.lst xs)] k) (k xs) := ⟨fun h => ⟨_, _, rfl, .dat, h⟩⟩
def A1 (dvs : List DV) (k : Int → Prop) : Prop := ∃ i, dvs = [.d (.int i)] ∧ k i
instance {i : Int} {k : Int → Prop} : Step (A1 [.d (.int i)] k) (k i) := ⟨fun h => ⟨_, rfl, h⟩⟩
instance [k : Kc X V L G B] [m : MmC B "abs"] [s : NS e] : Step (HE X W (.Call (.Name "abs" p) [e] [] pos) ds M R Xp) (HA X W [e] ds M (fun as M1 => A1 as fun i => R (.d (.int (if i < 0 then -i else i))) M1) Xp) := ⟨fun h => he_abs k.k m.h h (s.h [] X.env) rfl⟩
def IntP (dvs : List DV) (k : Int → Prop) : Prop := ∃ d i, dvs = [.d d] ∧ IntD d i ∧ k i
instance {i : Int} {k : Int → Prop} : Step (IntP [.d (.int i)] k) (k i) := ⟨fun h => ⟨_, _, rfl, .int _, h⟩⟩
instance {b : Bool} {k : Int → Prop} : Step (IntP [.d (.bl b)] k) (k (if b then 1 else 0)) := ⟨fun h => ⟨_, _, rfl, .bl _, h⟩⟩
instance [k : Kc X V L G B] [m : MmC B "int"] [s : NS e] : Step (HE X W (.Call (.Name "int" p) [e] [] pos) ds M R Xp) (HA X W [e] ds M (fun as M1 => IntP as fun i => R (.d (.int i)) M1) Xp) := ⟨fun h => he_intB k.k m.h h (s.h [] X.env) rfl⟩
def A2 (dvs : List DV) (k : Int → Int → Prop) : Prop := ∃ i j, dvs = [.d (.int i), .d (.int j)] ∧ k i j
instance {i j : Int} {k : Int → Int → Prop} : Step (A2 [.d (.int i), .d (.int j)] k) (k i j) := ⟨fun h => ⟨_, _, rfl, h⟩⟩
instance [c : Cc X] [k : Kc X V L G B] [m : MmC B "max"] [s : NS a] [s2 : NS b] : Step (HE X W (.Call (.Name "max" p) [a, b] [] pos) ds M R Xp) (HA X W [a, b] ds M (fun as M1 => A2 as fun i j => R (.d (.int (max i j))) M1) Xp) :=
  ⟨fun h => he_max2 c.h k.k m.h h (s.h [b] X.env) (NSs.back inferInstance pos X.env)⟩
instance [c : Cc X] [k : Kc X V L G B] [m : MmC B "min"] [s : NS a] [s2 : NS b] : Step (HE X W (.Call (.Name "min" p) [a, b] [] pos) ds M R Xp) (HA X W [a, b] ds M (fun as M1 => A2 as fun i j => R (.d (.int (min i j))) M1) Xp) :=
  ⟨fun h => he_min2 c.h k.k m.h h (s.h [b] X.env) (NSs.back inferInstance pos X.env)⟩
def MaxP (M : Mem) (dvs : List DV) (k : Int → Prop) : Prop := ∃ (a : DV) (ns : List Int), dvs = [a] ∧ LOf M a (ns.map .int) ∧ 0 < ns.length ∧ ∀ m, m ∈ ns → (∀ y, y ∈ ns → y ≤ m) → k m
instance [c : Cc X] [k : Kc X V L G B] [m : MmC B "max"] [s : NS a] : Step (HE X W (.Call (.Name "max" p) [a] [] pos) ds M R Xp) (HA X W [a] ds M (fun as M1 => MaxP M1 as fun i => R (.d (.int i)) M1) Xp) := ⟨fun h => he_maxL c.h k.k m.h h (s.h [] X.env) rfl⟩
/-- the type that a built-in name holds -/
class BtC (x : Str) (T : outParam String) : Prop where
  e : x = Str.ofString T
  h : bootBuiltins x = some (.type T)
instance : BtC "int" "int" := ⟨rfl, by decide +kernel⟩
instance : BtC "bool" "bool" := ⟨rfl, by decide +kernel⟩
instance : BtC "str" "str" := ⟨rfl, by decide +kernel⟩
instance : BtC "list" "list" := ⟨rfl, by decide +kernel⟩
instance : BtC "tuple" "tuple" := ⟨rfl, by decide +kernel⟩
instance : BtC "dict" "dict" := ⟨rfl, by decide +kernel⟩
/-- what isinstance answers -/
class IsC (d : Dat) (T : String) (b : outParam Bool) : Prop where
  h : ∃ nm, TyD d nm ∧ kitB nm T = some b
instance {i} : IsC (.int i) "int" true := ⟨_, .int i, by decide +kernel⟩
instance {i} : IsC (.int i) "bool" false := ⟨_, .int i, by decide +kernel⟩
instance {i} : IsC (.int i) "str" false := ⟨_, .int i, by decide +kernel⟩
instance {i} : IsC (.bl i) "int" true := ⟨_, .bl i, by decide +kernel⟩
instance {i} : IsC (.bl i) "bool" true := ⟨_, .bl i, by decide +kernel⟩
instance {i} : IsC (.bl i) "str" false := ⟨_, .bl i, by decide +kernel⟩
instance {i} : IsC (.str i) "int" false := ⟨_, .str i, by decide +kernel⟩
instance {i} : IsC (.str i) "bool" false := ⟨_, .str i, by decide +kernel⟩
instance {i} : IsC (.str i) "str" true := ⟨_, .str i, by decide +kernel⟩
instance {i} : IsC (.str i) "list" false := ⟨_, .str i, by decide +kernel⟩
instance {i} : IsC (.lst i) "list" true := ⟨_, .lst i, by decide +kernel⟩
instance {i} : IsC (.lst i) "str" false := ⟨_, .lst i, by decide +kernel⟩
instance {i} : IsC (.tup i) "tuple" true := ⟨_, .tup i, by decide +kernel⟩
instance {i} : IsC (.tup i) "str" false := ⟨_, .tup i, by decide +kernel⟩
instance {i} : IsC (.dct i) "dict" true := ⟨_, .dct i, by decide +kernel⟩
instance : IsC .non "int" false := ⟨_, .non, by decide +kernel⟩
instance : IsC .non "bool" false := ⟨_, .non, by decide +kernel⟩
instance : IsC .non "str" false := ⟨_, .non, by decide +kernel⟩
def IsP (T : String) (x : DV) (k : Bool → Prop) : Prop := ∃ d nm b, x = .d d ∧ TyD d nm ∧ kitB nm T = some b ∧ k b
instance {T : String} {d : Dat} {b : Bool} {k : Bool → Prop} [i : IsC d T b] : Step (IsP T (.d d) k) (k b) := ⟨fun h => i.h.elim fun nm q => ⟨d, nm, b, rfl, q.1, q.2, h⟩⟩
instance {x : Str} {T : String} [k : Kc X V L G B] [m : MmC B "isinstance"] [m2 : MmC B x] [bt : BtC x T] [s : NS e] : Step (HE X W (.Call (.Name "isinstance" p2) [e, .Name x p3] [] pos) ds M R Xp) (HE X W e ds M (fun x M1 => IsP T x fun b => R (.d (.bl b)) M1) Xp) := ⟨fun h => by
  obtain ⟨e1, h1⟩ := bt
  subst e1
  exact r_isi k.k m.h m2.h h1 h (s.h _ X.env) rfl⟩
/-- a built-in's name is no data: the low road is shut -/
def JoinP (M : Mem) (y : DV) (a : Str) (k : List Str → Prop) : Prop := ∃ ys : List Str, LOf M y (ys.map .str) ∧ (ys.map (·.length)).sum + ys.length * a.length ≤ 16777216 ∧ k ys
class AcC (o : Expr) : Prop where
  h : ∀ f env, attributeBase o f env (eval o env) = eval o env
instance {a b} : AcC (.Name a b) := ⟨fun _ _ => rfl⟩
instance {a b c} : AcC (.Constant a b c) := ⟨fun _ _ => rfl⟩
instance {a b c} : AcC (.Attribute a b c) := ⟨fun _ _ => rfl⟩
instance {a b c} : AcC (.Subscript a b c) := ⟨fun _ _ => rfl⟩

def S1 (x : DV) (k : Str → Prop) : Prop := ∃ i, x = .d (.str i) ∧ k i
instance {i : Str} {k : Str → Prop} : Step (S1 (.d (.str i)) k) (k i) := ⟨fun h => ⟨i, rfl, h⟩⟩
theorem r_joinS [s : NS e] [ac : AcC o] (h : HE X W o ds M (fun x M1 => S1 x fun a => HE X W e ds M1 (fun y M2 => JoinP M2 y a fun ys => R (.d (.str (Txt.join a ys))) M2) Xp) Xp) (hline : (apos.endLine == pos.line) = true := by with_unfolding_all rfl) :
    HE X W (.Call (.Attribute o "join" apos) [e] [] pos) ds M R Xp := r_join h (s.h [] X.env) (ac.h _ _) hline
/-! ### calls of defs over data -/
/-- the def that x names, callable here -/
class CallC (X : Cx) (W : WX) (x : Str) (Rel : outParam (List Dat → Oc → Prop)) : Prop where
  go : ∀ {e : Expr} {es : List Expr} {ds : Slots} {M : Mem} {R : DV → Mem → Prop} {Xp : Value → Mem → Prop} {p pos : Pos}, NS e → NSs es →
    HA X W (e :: es) ds M (fun dvs M1 => ∃ as o, AllD dvs as ∧ Rel as o ∧ Fin o R Xp M1) Xp → HE X W (.Call (.Name x p) (e :: es) [] pos) ds M R Xp
theorem callC {CX : CXT} {d c : Nat} {x : Str} {ps : List Str} {Rel : List Dat → Oc → Prop} (D : Def X.prog X.w X.K X.mg X.base CX d x ps (spD X.K Rel)) (hr : Rm c X.A) (hx : Lets CX X W) (k : Kx X V L G B) (m : Mm G x) (hd : d ≤ c) : CallC X W x Rel :=
  ⟨fun {e es ds M R Xp p pos} s ss h => he_call D k m (hr.mono hd) hx h (s.h es X.env) (ss.back pos X.env)⟩
/-- what a def over data answers, by instances -/
class RelC (Rel : List Dat → Oc → Prop) (as : List Dat) (o : outParam Oc) : Prop where
  h : Rel as o
def RelP (Rel : List Dat → Oc → Prop) (as : List Dat) (k : Oc → Prop) : Prop := ∃ o, Rel as o ∧ k o
instance {x : Str} {Rel : List Dat → Oc → Prop} [cc : CallC X W x Rel] [s : NS e] [ss : NSs es] : Step (HE X W (.Call (.Name x p) (e :: es) [] pos) ds M R Xp) (HA X W (e :: es) ds M (fun dvs M1 => AllP dvs fun as => RelP Rel as fun o => Fin o R Xp M1) Xp) :=
  ⟨fun h => cc.go s ss fun n S F0 H0 F H σ I Q q x => h n S F0 H0 F H σ I Q (fun vs F' H' M' dvs s' I' o' ⟨as, ha, o, hr, g⟩ => q vs F' H' M' dvs s' I' o' ⟨as, o, ha, hr, g⟩) x⟩
instance {Rel : List Dat → Oc → Prop} {as : List Dat} {o : Oc} {k : Oc → Prop} [r : RelC Rel as o] : Step (RelP Rel as k) (k o) := ⟨fun h => ⟨o, r.h, h⟩⟩
instance {d : Dat} : Step (Fin (.val d) R Xp M) (R (.d d) M) := ⟨fun h => h⟩
instance {cl : Value} : Step (Fin (.exc cl) R Xp M) (Xp cl M) := ⟨fun h => h⟩

instance {d : Dat} : Step (Rt (.val d) (.d d) M) True := ⟨fun _ => rfl⟩
/-! ### statements -/
def UpP (ds : Slots) (x : Str) (i : Nat) (dv : DV) (k : Slots → Prop) : Prop := ∃ ds', Up ds x dv ds' i ∧ k ds'
instance {x : Str} {i : Nat} {dv : DV} {ds' : Slots} {k : Slots → Prop} [u : UpC ds x dv i ds'] : Step (UpP ds x i dv k) (k ds') := ⟨fun h => ⟨ds', u.h, h⟩⟩
instance : Step (HSs X W [] ds M ⟨pn, pr, pb, pc, px⟩) (pn ds M) := ⟨hss_nil⟩
instance {st : Stmt} {rest : List Stmt} : Step (HSs X W (st :: rest) ds M ⟨pn, pr, pb, pc, px⟩) (HS X W st ds M ⟨fun ds' M' => HSs X W rest ds' M' ⟨pn, pr, pb, pc, px⟩, pr, pb, pc, px⟩) := ⟨hss_cons⟩
instance {x : Str} {i : Nat} [k : Kc X V L G B] [pl : PlC ds x i] [m : MmC L x] [nc : NC e] : Step (HS X W (.Assign [.Name x p] e pos) ds M ⟨pn, pr, pb, pc, px⟩) (HE X W e ds M (fun dv M1 => UpP ds x i dv fun ds' => pn ds' M1) (fun cls M1 => px cls ds M1)) :=
  ⟨fun h => r_set k.k pl.h m.h h (nc.h _ _ _)⟩
instance {q r : List Stmt} : Step (HS X W (.If c q r pos) ds M ⟨pn, pr, pb, pc, px⟩) (HT X W c ds M (fun k M1 => if k = true then HSs X W q ds M1 ⟨pn, pr, pb, pc, px⟩ else HSs X W r ds M1 ⟨pn, pr, pb, pc, px⟩) (fun cls M1 => px cls ds M1)) := ⟨hs_if⟩
instance : Step (HS X W (.Return (some e) pos) ds M ⟨pn, pr, pb, pc, px⟩) (HE X W e ds M (fun dv M1 => pr dv M1) (fun cls M1 => px cls ds M1)) := ⟨hs_ret⟩
instance : Step (HS X W (.Return none pos) ds M ⟨pn, pr, pb, pc, px⟩) (pr (.d .non) M) := ⟨hs_retN⟩
instance [nc : NC e] : Step (HS X W (.Expr e pos) ds M ⟨pn, pr, pb, pc, px⟩) (HE X W e ds M (fun dv M1 => pn ds M1) (fun cls M1 => px cls ds M1)) := ⟨fun h => hs_drop h (nc.h _ _ _)⟩
end
theorem SNe.of {s t : Str} (h : decide (s = t) = false) : SNe s t := ⟨of_decide_eq_false h⟩
end CS

/-! CsWords: the words of the language, told apart. -/
namespace CS
open PySem L2
instance : SNe "num" "name" := ⟨by decide +kernel⟩
instance : SNe "num" "sum" := ⟨by decide +kernel⟩
instance : SNe "num" "less" := ⟨by decide +kernel⟩
instance : SNe "num" "times" := ⟨by decide +kernel⟩
instance : SNe "num" "part" := ⟨by decide +kernel⟩
instance : SNe "num" "below" := ⟨by decide +kernel⟩
instance : SNe "num" "choose" := ⟨by decide +kernel⟩
instance : SNe "num" "let" := ⟨by decide +kernel⟩
instance : SNe "num" "call" := ⟨by decide +kernel⟩
instance : SNe "name" "num" := ⟨by decide +kernel⟩
instance : SNe "name" "sum" := ⟨by decide +kernel⟩
instance : SNe "name" "less" := ⟨by decide +kernel⟩
instance : SNe "name" "times" := ⟨by decide +kernel⟩
instance : SNe "name" "part" := ⟨by decide +kernel⟩
instance : SNe "name" "below" := ⟨by decide +kernel⟩
instance : SNe "name" "choose" := ⟨by decide +kernel⟩
instance : SNe "name" "let" := ⟨by decide +kernel⟩
instance : SNe "name" "call" := ⟨by decide +kernel⟩
instance : SNe "sum" "num" := ⟨by decide +kernel⟩
instance : SNe "sum" "name" := ⟨by decide +kernel⟩
instance : SNe "sum" "less" := ⟨by decide +kernel⟩
instance : SNe "sum" "times" := ⟨by decide +kernel⟩
instance : SNe "sum" "part" := ⟨by decide +kernel⟩
instance : SNe "sum" "below" := ⟨by decide +kernel⟩
instance : SNe "sum" "choose" := ⟨by decide +kernel⟩
instance : SNe "sum" "let" := ⟨by decide +kernel⟩
instance : SNe "sum" "call" := ⟨by decide +kernel⟩
instance : SNe "less" "num" := ⟨by decide +kernel⟩
instance : SNe "less" "name" := ⟨by decide +kernel⟩
instance : SNe "less" "sum" := ⟨by decide +kernel⟩
instance : SNe "less" "times" := ⟨by decide +kernel⟩
instance : SNe "less" "part" := ⟨by decide +kernel⟩
instance : SNe "less" "below" := ⟨by decide +kernel⟩
instance : SNe "less" "choose" := ⟨by decide +kernel⟩
instance : SNe "less" "let" := ⟨by decide +kernel⟩
instance : SNe "less" "call" := ⟨by decide +kernel⟩
instance : SNe "times" "num" := ⟨by decide +kernel⟩
instance : SNe "times" "name" := ⟨by decide +kernel⟩
instance : SNe "times" "sum" := ⟨by decide +kernel⟩
instance : SNe "times" "less" := ⟨by decide +kernel⟩
instance : SNe "times" "part" := ⟨by decide +kernel⟩
instance : SNe "times" "below" := ⟨by decide +kernel⟩
instance : SNe "times" "choose" := ⟨by decide +kernel⟩
instance : SNe "times" "let" := ⟨by decide +kernel⟩
instance : SNe "times" "call" := ⟨by decide +kernel⟩
instance : SNe "part" "num" := ⟨by decide +kernel⟩
instance : SNe "part" "name" := ⟨by decide +kernel⟩
instance : SNe "part" "sum" := ⟨by decide +kernel⟩
instance : SNe "part" "less" := ⟨by decide +kernel⟩
instance : SNe "part" "times" := ⟨by decide +kernel⟩
instance : SNe "part" "below" := ⟨by decide +kernel⟩
instance : SNe "part" "choose" := ⟨by decide +kernel⟩
instance : SNe "part" "let" := ⟨by decide +kernel⟩
instance : SNe "part" "call" := ⟨by decide +kernel⟩
instance : SNe "below" "num" := ⟨by decide +kernel⟩
instance : SNe "below" "name" := ⟨by decide +kernel⟩
instance : SNe "below" "sum" := ⟨by decide +kernel⟩
instance : SNe "below" "less" := ⟨by decide +kernel⟩
instance : SNe "below" "times" := ⟨by decide +kernel⟩
instance : SNe "below" "part" := ⟨by decide +kernel⟩
instance : SNe "below" "choose" := ⟨by decide +kernel⟩
instance : SNe "below" "let" := ⟨by decide +kernel⟩
instance : SNe "below" "call" := ⟨by decide +kernel⟩
instance : SNe "choose" "num" := ⟨by decide +kernel⟩
instance : SNe "choose" "name" := ⟨by decide +kernel⟩
instance : SNe "choose" "sum" := ⟨by decide +kernel⟩
instance : SNe "choose" "less" := ⟨by decide +kernel⟩
instance : SNe "choose" "times" := ⟨by decide +kernel⟩
instance : SNe "choose" "part" := ⟨by decide +kernel⟩
instance : SNe "choose" "below" := ⟨by decide +kernel⟩
instance : SNe "choose" "let" := ⟨by decide +kernel⟩
instance : SNe "choose" "call" := ⟨by decide +kernel⟩
instance : SNe "let" "num" := ⟨by decide +kernel⟩
instance : SNe "let" "name" := ⟨by decide +kernel⟩
instance : SNe "let" "sum" := ⟨by decide +kernel⟩
instance : SNe "let" "less" := ⟨by decide +kernel⟩
instance : SNe "let" "times" := ⟨by decide +kernel⟩
instance : SNe "let" "part" := ⟨by decide +kernel⟩
instance : SNe "let" "below" := ⟨by decide +kernel⟩
instance : SNe "let" "choose" := ⟨by decide +kernel⟩
instance : SNe "let" "call" := ⟨by decide +kernel⟩
instance : SNe "call" "num" := ⟨by decide +kernel⟩
instance : SNe "call" "name" := ⟨by decide +kernel⟩
instance : SNe "call" "sum" := ⟨by decide +kernel⟩
instance : SNe "call" "less" := ⟨by decide +kernel⟩
instance : SNe "call" "times" := ⟨by decide +kernel⟩
instance : SNe "call" "part" := ⟨by decide +kernel⟩
instance : SNe "call" "below" := ⟨by decide +kernel⟩
instance : SNe "call" "choose" := ⟨by decide +kernel⟩
instance : SNe "call" "let" := ⟨by decide +kernel⟩
instance : SNe "push" "load" := ⟨by decide +kernel⟩
instance : SNe "push" "keep" := ⟨by decide +kernel⟩
instance : SNe "push" "do" := ⟨by decide +kernel⟩
instance : SNe "push" "unless" := ⟨by decide +kernel⟩
instance : SNe "push" "skip" := ⟨by decide +kernel⟩
instance : SNe "push" "call" := ⟨by decide +kernel⟩
instance : SNe "push" "back" := ⟨by decide +kernel⟩
instance : SNe "load" "push" := ⟨by decide +kernel⟩
instance : SNe "load" "keep" := ⟨by decide +kernel⟩
instance : SNe "load" "do" := ⟨by decide +kernel⟩
instance : SNe "load" "unless" := ⟨by decide +kernel⟩
instance : SNe "load" "skip" := ⟨by decide +kernel⟩
instance : SNe "load" "call" := ⟨by decide +kernel⟩
instance : SNe "load" "back" := ⟨by decide +kernel⟩
instance : SNe "keep" "push" := ⟨by decide +kernel⟩
instance : SNe "keep" "load" := ⟨by decide +kernel⟩
instance : SNe "keep" "do" := ⟨by decide +kernel⟩
instance : SNe "keep" "unless" := ⟨by decide +kernel⟩
instance : SNe "keep" "skip" := ⟨by decide +kernel⟩
instance : SNe "keep" "call" := ⟨by decide +kernel⟩
instance : SNe "keep" "back" := ⟨by decide +kernel⟩
instance : SNe "do" "push" := ⟨by decide +kernel⟩
instance : SNe "do" "load" := ⟨by decide +kernel⟩
instance : SNe "do" "keep" := ⟨by decide +kernel⟩
instance : SNe "do" "unless" := ⟨by decide +kernel⟩
instance : SNe "do" "skip" := ⟨by decide +kernel⟩
instance : SNe "do" "call" := ⟨by decide +kernel⟩
instance : SNe "do" "back" := ⟨by decide +kernel⟩
instance : SNe "unless" "push" := ⟨by decide +kernel⟩
instance : SNe "unless" "load" := ⟨by decide +kernel⟩
instance : SNe "unless" "keep" := ⟨by decide +kernel⟩
instance : SNe "unless" "do" := ⟨by decide +kernel⟩
instance : SNe "unless" "skip" := ⟨by decide +kernel⟩
instance : SNe "unless" "call" := ⟨by decide +kernel⟩
instance : SNe "unless" "back" := ⟨by decide +kernel⟩
instance : SNe "skip" "push" := ⟨by decide +kernel⟩
instance : SNe "skip" "load" := ⟨by decide +kernel⟩
instance : SNe "skip" "keep" := ⟨by decide +kernel⟩
instance : SNe "skip" "do" := ⟨by decide +kernel⟩
instance : SNe "skip" "unless" := ⟨by decide +kernel⟩
instance : SNe "skip" "call" := ⟨by decide +kernel⟩
instance : SNe "skip" "back" := ⟨by decide +kernel⟩
instance : SNe "call" "push" := ⟨by decide +kernel⟩
instance : SNe "call" "load" := ⟨by decide +kernel⟩
instance : SNe "call" "keep" := ⟨by decide +kernel⟩
instance : SNe "call" "do" := ⟨by decide +kernel⟩
instance : SNe "call" "unless" := ⟨by decide +kernel⟩
instance : SNe "call" "skip" := ⟨by decide +kernel⟩
instance : SNe "call" "back" := ⟨by decide +kernel⟩
instance : SNe "back" "push" := ⟨by decide +kernel⟩
instance : SNe "back" "load" := ⟨by decide +kernel⟩
instance : SNe "back" "keep" := ⟨by decide +kernel⟩
instance : SNe "back" "do" := ⟨by decide +kernel⟩
instance : SNe "back" "unless" := ⟨by decide +kernel⟩
instance : SNe "back" "skip" := ⟨by decide +kernel⟩
instance : SNe "back" "call" := ⟨by decide +kernel⟩
instance : SNe "nought" "great" := ⟨by decide +kernel⟩
instance : SNe "nought" "deep" := ⟨by decide +kernel⟩
instance : SNe "nought" "dry" := ⟨by decide +kernel⟩
instance : SNe "nought" "value" := ⟨by decide +kernel⟩
instance : SNe "great" "nought" := ⟨by decide +kernel⟩
instance : SNe "great" "deep" := ⟨by decide +kernel⟩
instance : SNe "great" "dry" := ⟨by decide +kernel⟩
instance : SNe "great" "value" := ⟨by decide +kernel⟩
instance : SNe "deep" "nought" := ⟨by decide +kernel⟩
instance : SNe "deep" "great" := ⟨by decide +kernel⟩
instance : SNe "deep" "dry" := ⟨by decide +kernel⟩
instance : SNe "deep" "value" := ⟨by decide +kernel⟩
instance : SNe "dry" "nought" := ⟨by decide +kernel⟩
instance : SNe "dry" "great" := ⟨by decide +kernel⟩
instance : SNe "dry" "deep" := ⟨by decide +kernel⟩
instance : SNe "dry" "value" := ⟨by decide +kernel⟩
instance : SNe "value" "nought" := ⟨by decide +kernel⟩
instance : SNe "value" "great" := ⟨by decide +kernel⟩
instance : SNe "value" "deep" := ⟨by decide +kernel⟩
instance : SNe "value" "dry" := ⟨by decide +kernel⟩
instance : SNe "" "twice" := ⟨by decide +kernel⟩
instance : SNe "" "name" := ⟨by decide +kernel⟩
instance : SNe "" "function" := ⟨by decide +kernel⟩
instance : SNe "" "count" := ⟨by decide +kernel⟩
instance : SNe "" "tall" := ⟨by decide +kernel⟩
instance : SNe "twice" "" := ⟨by decide +kernel⟩
instance : SNe "twice" "name" := ⟨by decide +kernel⟩
instance : SNe "twice" "function" := ⟨by decide +kernel⟩
instance : SNe "twice" "count" := ⟨by decide +kernel⟩
instance : SNe "twice" "tall" := ⟨by decide +kernel⟩
instance : SNe "name" "" := ⟨by decide +kernel⟩
instance : SNe "name" "twice" := ⟨by decide +kernel⟩
instance : SNe "name" "function" := ⟨by decide +kernel⟩
instance : SNe "name" "count" := ⟨by decide +kernel⟩
instance : SNe "name" "tall" := ⟨by decide +kernel⟩
instance : SNe "function" "" := ⟨by decide +kernel⟩
instance : SNe "function" "twice" := ⟨by decide +kernel⟩
instance : SNe "function" "name" := ⟨by decide +kernel⟩
instance : SNe "function" "count" := ⟨by decide +kernel⟩
instance : SNe "function" "tall" := ⟨by decide +kernel⟩
instance : SNe "count" "" := ⟨by decide +kernel⟩
instance : SNe "count" "twice" := ⟨by decide +kernel⟩
instance : SNe "count" "name" := ⟨by decide +kernel⟩
instance : SNe "count" "function" := ⟨by decide +kernel⟩
instance : SNe "count" "tall" := ⟨by decide +kernel⟩
instance : SNe "tall" "" := ⟨by decide +kernel⟩
instance : SNe "tall" "twice" := ⟨by decide +kernel⟩
instance : SNe "tall" "name" := ⟨by decide +kernel⟩
instance : SNe "tall" "function" := ⟨by decide +kernel⟩
instance : SNe "tall" "count" := ⟨by decide +kernel⟩
end CS

/-! CsComp: comprehensions and loops for use: what is walked by instances, a block as a context of its own. -/
namespace CS
open PySem L2
/-- Y runs where X runs -/
structure SameC (X Y : Cx) : Prop where
  prog : Y.prog = X.prog
  w : Y.w = X.w
  K : Y.K = X.K
  mg : Y.mg = X.mg
  base : Y.base = X.base
  A : Y.A = X.A
  calm : Y.calm = X.calm
theorem callB {X Y : Cx} {W : WX} {CX : CXT} {d c : Nat} {x : Str} {ps : List Str} {Rel : List Dat → Oc → Prop} {V L G B : List Str} (s : SameC X Y) (D : Def X.prog X.w X.K X.mg X.base CX d x ps (spD X.K Rel)) (hr : Rm c X.A) (hx : Lets CX Y W) (k : Kx Y V L G B) (m : Mm G x) (hd : d ≤ c) :
    CallC Y W x Rel := by
  obtain ⟨h1, h2, h3, h4, h5, h6, h7⟩ := s
  rw [← h1, ← h2, ← h3, ← h4, ← h5] at D
  rw [← h6] at hr
  exact callC D hr hx k m hd
theorem Rc.same {X Y : Cx} (s : SameC X Y) (r : Rc X) : Rc Y := ⟨by rw [s.A]; exact r.h⟩
theorem Cc.same {X Y : Cx} (s : SameC X Y) (r : Cc X) : Cc Y := ⟨by rw [s.calm]; exact r.h⟩
section
variable {X : Cx} {W : WX} {e a b c o tg iter elt cond : Expr} {es : List Expr} {ds : Slots} {M : Mem} {R : DV → Mem → Prop} {Xp : Value → Mem → Prop} {pos p p2 p3 apos : Pos} {V L G B : List Str}
variable {pn : Slots → Mem → Prop} {pr : DV → Mem → Prop} {pb pc : Slots → Mem → Prop} {px : Value → Slots → Mem → Prop}
/-! ### what is walked -/
def LstP (x : DV) (k : List Dat → Prop) : Prop := ∃ xs, x = .d (.lst xs) ∧ k xs
def TupP (x : DV) (k : List Dat → Prop) : Prop := ∃ xs, x = .d (.tup xs) ∧ k xs
instance {xs : List Dat} {k : List Dat → Prop} : Step (LstP (.d (.lst xs)) k) (k xs) := ⟨fun h => ⟨xs, rfl, h⟩⟩
instance {xs : List Dat} {k : List Dat → Prop} : Step (TupP (.d (.tup xs)) k) (k xs) := ⟨fun h => ⟨xs, rfl, h⟩⟩
def Rng1P (dvs : List DV) (k : Int → Prop) : Prop := ∃ j, dvs = [.d (.int j)] ∧ k j
def Rng2P (dvs : List DV) (k : Int → Int → Prop) : Prop := ∃ i j, dvs = [.d (.int i), .d (.int j)] ∧ k i j
instance {j : Int} {k : Int → Prop} : Step (Rng1P [.d (.int j)] k) (k j) := ⟨fun h => ⟨j, rfl, h⟩⟩
instance {i j : Int} {k : Int → Int → Prop} : Step (Rng2P [.d (.int i), .d (.int j)] k) (k i j) := ⟨fun h => ⟨i, j, rfl, h⟩⟩
theorem hiL {k : List Dat → Mem → Prop} (h : HE X W iter ds M (fun dv M1 => LstP dv fun xs => k xs M1) Xp) : HI X W tg iter ds M k Xp := hi_lst h
theorem hiT {k : List Dat → Mem → Prop} (h : HE X W iter ds M (fun dv M1 => TupP dv fun xs => k xs M1) Xp) : HI X W tg iter ds M k Xp := hi_tup h
instance {k : List Dat → Mem → Prop} [kc : Kc X V L G B] [m : MmC B "range"] [s : NS a] : Step (HI X W tg (.Call (.Name "range" p) [a] [] pos) ds M k Xp) (HA X W [a] ds M (fun dvs M1 => Rng1P dvs fun j => (-(2 ^ 62) ≤ j ∧ j < 2 ^ 62) ∧ k (rngD 0 j.toNat) M1) Xp) :=
  ⟨fun h => hi_rng1 kc.k m.h (fun n S F0 H0 F H σ I Q q x => h n S F0 H0 F H σ I Q (fun vs F' H' M' dvs s' I' o' ⟨j, e, hb, g⟩ => q vs F' H' M' dvs s' I' o' ⟨j, e, hb.1, hb.2, g⟩) x) (s.h [] X.env)⟩
instance {k : List Dat → Mem → Prop} [kc : Kc X V L G B] [m : MmC B "range"] [s : NS a] [s2 : NS b] : Step (HI X W tg (.Call (.Name "range" p) [a, b] [] pos) ds M k Xp)
    (HA X W [a, b] ds M (fun dvs M1 => Rng2P dvs fun i j => (-(2 ^ 62) ≤ i ∧ i < 2 ^ 62 ∧ -(2 ^ 62) ≤ j ∧ j < 2 ^ 62) ∧ k (rngD i (j - i).toNat) M1) Xp) :=
  ⟨fun h => hi_rng2 kc.k m.h h (by rw [s.h, s2.h]; rfl) (s2.h [] X.env)⟩

/-! ### comprehensions over one name -/
theorem blk_ok {S scope : Scope} {N : List Str} {own : List (Str × Nat)} (nn : X.N = N) (sc : X.env.scope = S) (h : blkC N S scope own = true) : BlkOk X.N X.env.scope scope own := by
  rw [nn, sc]
  exact blkOk_by h
theorem up_wipe : ∀ {ds es : Slots} {x : Str} {v : DV} {i : Nat}, Up ds x v es i → Up (wipe1 ds i) x v es i
  | _, _, _, _, _, .here => .here
  | _, _, _, _, _, .there h => .there (up_wipe h)
/-- what is asked of a block's element -/
def Blk (X : Cx) (V L G B : List Str) (Pr : Cx → Prop) : Prop := ∀ Y : Cx, SameC X Y → Kx Y V L G B → Pr Y
/-- what is asked of a comprehension over one name -/
def LcQ (X : Cx) (W : WX) (elt : Expr) (x : Str) (i : Nat) (p : Pos) (iter : Expr) (V' L' G' B' : List Str) (g : Nat → Dat → Dat) (ds : Slots) (M : Mem) (R : DV → Mem → Prop) (Xp : Value → Mem → Prop) : Prop :=
  HI X W (.Name x p) iter ds M (fun xs M1 => xs.length ≤ 1000000 ∧ (∀ D acc n y, xs[n]? = some y → UpP ds x i (.d y) fun ds2 => Blk X V' L' G' B' fun Y => HE Y W0 elt ds2 (Acc M1 D acc) (fun dv M3 => dv = .d (g n y) ∧ M3 = Acc M1 D acc) (fun _ _ => False)) ∧ R (.d (.lst (xs.mapIdx g))) M1) Xp
instance {x : Str} {i : Nat} {V' L' G' B' : List Str} {g : Nat → Dat → Dat} : Step (LcQ X W elt x i p iter V' L' G' B' g ds M R Xp)
    (HI X W (.Name x p) iter ds M (fun xs M1 => xs.length ≤ 1000000 ∧ (∀ D acc n y, xs[n]? = some y → UpP ds x i (.d y) fun ds2 => Blk X V' L' G' B' fun Y => HE Y W0 elt ds2 (Acc M1 D acc) (fun dv M3 => dv = .d (g n y) ∧ M3 = Acc M1 D acc) (fun _ _ => False)) ∧ R (.d (.lst (xs.mapIdx g))) M1) Xp) := ⟨fun h => h⟩
theorem lcQ {scope : Scope} {V' L' G' B' : List Str} {x : Str} {i : Nat} {g : Nat → Dat → Dat} (kb : BK X scope fun Y => Kx Y V' L' G' B')
    (hi : LcQ X W elt x i p iter V' L' G' B' g ds M R Xp) : HLC X W elt (.Name x p) iter scope [(x, i)] (gName i) ds M R Xp := by
  refine hlc_of (is := [i]) (t := gName i) (f := fName x i) (by simp) gs_name (fun n => ?_)
  obtain ⟨wi, pi, hw⟩ := hi n
  refine ⟨wi, pi, fun S F0 H0 F H σ I Q q x' => hw S F0 H0 F H σ I Q (fun J xs F' H' M' s' I' it lc => q J xs F' H' M' s' I' it ?_) x'⟩
  obtain ⟨hz, turn, done⟩ := lc
  refine ⟨hz, fun n acc => acc = (xs.take n).mapIdx g, by simp, fun D n y acc hy hacc => ?_, fun acc e => ?_⟩
  · obtain ⟨ds2, u, hb⟩ := turn D acc n y hy
    refine ⟨ds2, up_wipe u, fun s H C cl fp => he_imp (hb _ ⟨rfl, rfl, rfl, rfl, rfl, rfl, rfl⟩ (kb s H C cl fp)) ?_⟩
    rintro dv M3 ⟨rfl, rfl⟩
    refine ⟨rfl, _, rfl, ?_⟩
    have hn : n < xs.length := (List.getElem?_eq_some_iff.mp hy).1
    have e : xs.take (n + 1) = xs.take n ++ [y] := by
      rw [List.take_add_one, hy]
      rfl
    show acc ++ [g n y] = (xs.take (n + 1)).mapIdx g
    have hacc : acc = (xs.take n).mapIdx g := hacc
    rw [e, List.mapIdx_append, hacc]
    congr 1
    show [g n y] = [g (0 + (xs.take n).length) y]
    rw [List.length_take, Nat.min_eq_left (Nat.le_of_lt hn), Nat.zero_add]
  · have e : acc = (xs.take xs.length).mapIdx g := e
    rw [List.take_length] at e
    rw [e]
    exact done
theorem lcN {S scope : Scope} {N BB : List Str} {V' L' G' B' : List Str} {x : Str} {i : Nat} (g : Nat → Dat → Dat) (hc : X.calm = true) (nd : X.N.Nodup) (nn : X.N = N) (sc : X.env.scope = S) (hm : ∀ x ∈ BB, X.mg x = none)
    (h1 : blkC N S scope [(x, i)] = true) (h2 : kxB (relS S scope) N V' L' G' B' BB false = true) (hi1 : N[i]? = some x) (hl : Mm L' x)
    (hi : LcQ X W elt x i p iter V' L' G' B' g ds M R Xp)
    (hs : ∀ z, foldedSetIterable iter X.env z = pure z := by intro _; with_unfolding_all rfl) : HE X W (.ListComp elt [⟨.Name x p, iter, [], 0⟩] scope pos) ds M R Xp :=
  have kb := kx_blk (X := X) h2 sc nn hm
  he_hlc hc nd (blk_ok nn sc h1) (fun s H C cl fp => pg_nm (kb s H C cl fp) hl (by show X.N[i]? = _; rw [nn]; exact hi1)) (lcQ kb hi) hs
/-- y = [..] in one line -/
theorem lcS {S scope : Scope} {N BB : List Str} {V' L' G' B' : List Str} {x y : Str} {i j : Nat} {q spos : Pos} [k : Kc X V L G B] [pl : PlC ds y j] [m : MmC L y] (g : Nat → Dat → Dat) (hc : X.calm = true) (nn : X.N = N) (sc : X.env.scope = S) (hm : ∀ x ∈ BB, X.mg x = none)
    (h1 : blkC N S scope [(x, i)] = true) (h2 : kxB (relS S scope) N V' L' G' B' BB false = true) (hi1 : N[i]? = some x) (hl : Mm L' x)
    (h3 : S.kind = .function) (h6 : S.names.lookup y = some .local) (h4 : (q.line == pos.line) = true) (h5 : (scope.names.any fun (n, k) => n == y && (k == .local || k == .cell)) = false)
    (hi : LcQ X W elt x i p iter V' L' G' B' g ds M (fun dv M1 => UpP ds y j dv fun ds' => pn ds' M1) (fun cls M1 => px cls ds M1))
    (hs : ∀ z, foldedSetIterable iter X.env z = pure z := by intro _; with_unfolding_all rfl) : HS X W (.Assign [.Name y q] (.ListComp elt [⟨.Name x p, iter, [], 0⟩] scope pos) spos) ds M ⟨pn, pr, pb, pc, px⟩ :=
  have kb := kx_blk (X := X) h2 sc nn hm
  hs_hlc k.k m.h pl.h.name hc (blk_ok nn sc h1) (fun s H C cl fp => pg_nm (kb s H C cl fp) hl (by show X.N[i]? = _; rw [nn]; exact hi1)) (lcQ kb hi) (by rw [sc]; exact h3) (by rw [sc]; exact h6) h4 h5 hs
end
end CS
namespace CS
open PySem L2
theorem rngD_get {lo : Int} {m n : Nat} {y : Dat} (h : (rngD lo m)[n]? = some y) : n < m ∧ y = .int (lo + (n : Int)) := by
  unfold rngD at h
  rw [List.getElem?_map] at h
  by_cases hn : n < m
  · rw [List.getElem?_range hn] at h
    exact ⟨hn, (Option.some.inj h).symm⟩
  · rw [List.getElem?_eq_none (by simpa using hn)] at h
    cases h
theorem rngD_len (lo : Int) (m : Nat) : (rngD lo m).length = m := by simp [rngD]
theorem rngD_mapIdx (lo : Int) (m : Nat) (g : Nat → Dat → Dat) : (rngD lo m).mapIdx g = (List.range m).map fun n => g n (.int (lo + (n : Int))) := by
  refine List.ext_getElem? fun n => ?_
  rw [List.getElem?_mapIdx, List.getElem?_map]
  unfold rngD
  rw [List.getElem?_map]
  by_cases hn : n < m
  · rw [List.getElem?_range hn]
    rfl
  · rw [List.getElem?_eq_none (l := List.range m) (by simpa using hn)]
    rfl
end CS
namespace CS
open PySem L2
theorem cdiv_of {i j : Int} (h : 0 < j ∧ j < 1073741824) : CDiv i j := h
theorem cmulL {i j : Int} (h : -18446744073709551616 < i ∧ i < 18446744073709551616) : CMul i j := .inl h
theorem cmulR {i j : Int} (h : -18446744073709551616 < j ∧ j < 18446744073709551616) : CMul i j := .inr h
theorem cpow_of {i j : Int} (h : 0 ≤ j ∧ j ≤ 1000000 ∧ i.natAbs < 2 ^ 64) : CPow i j := h
end CS
namespace CS
open PySem L2
theorem iteD {p A B : Prop} [Decidable p] (h1 : p → A) (h2 : ¬ p → B) : if decide p = true then A else B := by
  by_cases h : p
  · rw [if_pos (decide_eq_true h)]; exact h1 h
  · rw [if_neg (by simpa using h)]; exact h2 h
theorem iteND {p A B : Prop} [Decidable p] (h1 : ¬ p → A) (h2 : p → B) : if (!decide p) = true then A else B := by
  by_cases h : p
  · rw [if_neg (by simpa using h)]; exact h2 h
  · rw [if_pos (by simpa using h)]; exact h1 h
theorem iteT {p A B : Prop} [Decidable p] (h : p) (a : A) : if decide p = true then A else B := by rw [if_pos (decide_eq_true h)]; exact a
theorem iteF {p A B : Prop} [Decidable p] (h : ¬ p) (a : B) : if decide p = true then A else B := by rw [if_neg (by simpa using h)]; exact a
end CS
namespace CS
open PySem L2
theorem relP_of {Rel : List Dat → Oc → Prop} {as : List Dat} {o : Oc} {k : Oc → Prop} (h : Rel as o) (q : k o) : RelP Rel as k := ⟨o, h, q⟩
theorem cutD_to (xs : List Dat) (n : Nat) : cutD xs none (some (n : Int)) = xs.take n := by
  unfold cutD
  rw [HT.sIx_nat, HT.sIx_none, List.drop_zero, Nat.sub_zero]
  by_cases h : n ≤ xs.length
  · rw [Nat.min_eq_left h]
  · rw [Nat.min_eq_right (by omega), List.take_of_length_le (Nat.le_refl _), List.take_of_length_le (by omega)]
theorem sldP_to {M : Mem} {xs : List Dat} {i : Int} {k : Dat → Prop} (h0 : 0 ≤ i) (h : k (.lst (xs.take i.toNat))) : SldP M (.d (.lst xs)) none (some i) k := by
  refine ⟨.lst (cutD xs none (some i)), .lst .dat, ?_⟩
  have e := cutD_to xs i.toNat
  rw [Int.toNat_of_nonneg h0] at e
  rw [e]
  exact h
theorem sldP_from {M : Mem} {xs : List Dat} {i : Int} {k : Dat → Prop} (h0 : 0 ≤ i) (h : k (.lst (xs.drop i.toNat))) : SldP M (.d (.lst xs)) (some i) none k := by
  refine ⟨.lst (cutD xs (some i) none), .lst .dat, ?_⟩
  have e := cutD_from xs i.toNat
  rw [Int.toNat_of_nonneg h0] at e
  rw [e]
  exact h
instance {M : Mem} {xs : List Dat} {i : Int} {n : Nat} {k : Dat → Prop} [l : IntLit i n] : Step (SldP M (.d (.lst xs)) none (some i) k) (k (.lst (xs.take n))) := ⟨fun h => by
  have e := l.h
  subst e
  exact sldP_to (Int.natCast_nonneg n) (by rw [Int.toNat_natCast]; exact h)⟩
instance {M : Mem} {xs : List Dat} {i : Int} {n : Nat} {k : Dat → Prop} [l : IntLit i n] : Step (SldP M (.d (.lst xs)) (some i) none k) (k (.lst (xs.drop n))) := ⟨fun h => by
  have e := l.h
  subst e
  exact sldP_from (Int.natCast_nonneg n) (by rw [Int.toNat_natCast]; exact h)⟩
theorem ixP_lst {M : Mem} {xs : List Dat} {i : Int} {d : Dat} {k : DV → Prop} (h : atI xs i = some d) (q : k (.d d)) : IxP M (.d (.lst xs)) (.d (.int i)) k := ⟨_, _, rfl, .lst h, q⟩
theorem ixP_tup {M : Mem} {xs : List Dat} {i : Int} {d : Dat} {k : DV → Prop} (h : atI xs i = some d) (q : k (.d d)) : IxP M (.d (.tup xs)) (.d (.int i)) k := ⟨_, _, rfl, .tup h, q⟩
end CS

/-! CsEnd: a def of the top by its place, and a law's end. -/
namespace CS
open PySem L2
/-- the def x stands in the main module -/
def FunAt (K : PySem.W.Frag) (mg : Str → Option Value) (x qual : Str) (st : Stmt) : Prop := ∃ f fd, Fun K x qual st f fd ∧ mg x = some (.ref f)
/-- its parameters are plain names -/
def Plain (st : Stmt) (x qual : Str) (ps : List Str) : Prop := ∀ (s : Shared) (kV doc pm : Value) (an : Option Addr) (cdv ct : Value) (us : List Value), us.length = ps.length → BindsTo s (PySem.W.fnOf x qual (defArgs st) (defBody st) (defScope st) .none kV doc pm an cdv ct) ⟨us, []⟩ (ps.zip us)
section
variable {P : Program} {w : World} {K : PySem.W.Frag} {mg : Str → Option Value} {base : Heap} {CX : CXT} {d : Nat} {x qual : Str} {ps : List Str} {sp : Sp} {st : Stmt}
theorem def_of (T : FunAt K mg x qual st) (b : ∀ f fd, Fun K x qual st f fd → Binds K fd ps []) (h : ∀ {f fd}, Fun K x qual st f fd → FnR P w K mg base CX d f fd ps sp) : Def P w K mg base CX d x ps sp := by
  obtain ⟨f, fd, F, m⟩ := T
  exact ⟨f, fd, h F, m, F.kp, b f fd F⟩
theorem fnr_ok {f : Addr} {fd : FuncData} {k : Nat} (F : FnR P w K mg base CX d f fd ps sp) (h1 : d + 25 ≤ 3 * k) (h2 : 6 * d + 800 ≤ 16 * k) : FnOk P w K mg base CX k f fd ps sp :=
  ⟨F.len, fun A outer s H args us vs Q E hr he hb hv hs => F.go A outer s H args us vs Q E ⟨hr.hd, by have := hr.dp; omega, by have := hr.un; omega⟩ he hb hv hs⟩
end
theorem walk_cs {l : PySem.W.OpenLaw} {k d : Nat} {q : Program} {loose : List Str} {XP : (Str → Option Value) → Heap → Prop} {YP : World → Heap → Prop} {dr : DefRec} {K : Params → PySem.W.Frag} {Rel : List Dat → Oc → Prop} (hn : l.most = some 63) (hdf : dr.params.defaults = [])
    (h1 : d + 25 ≤ 3 * k) (h2 : 6 * d + 800 ≤ 16 * k) (hr : Room k callerA)
    (hY : ∀ (w : World) (h : Heap), YP w h → (K w.params).In h)
    (F : ∀ (w : World) (mg : Str → Option Value) (fa : Addr) (h : Heap), (K w.params).In h → h.Ns mainGlobals mg → mg dr.name = some (.ref fa) →
      ∃ fd : FuncData, (∀ (s : Shared) (u : Value), BindsTo s fd ⟨[u], []⟩ [("_law_script", u)]) ∧ ∀ base : Heap, (K w.params).In base → base.Ns mainGlobals mg → FnR l.prog w (K w.params) mg base CX0 d fa fd ["_law_script"] (spD (K w.params) Rel))
    (hR : ∀ ns : List Int, ns.length ≤ 63 → Rel [.scr ns] (.val (.bl true))) :
    PySem.W.WalkO q loose XP YP l.row.toRowW dr [] (fun f vs => PySem.call f vs) :=
  L2.walk_of (n := 63) (k := k) (x := "_law_script") (CX := fun _ => CX0) (sp := fun w => spD (K w.params) Rel) hn (by decide) hdf hr hY
    (fun w mg fa h KX G hmg => (F w mg fa h KX G hmg).elim fun fd ⟨b, g⟩ => ⟨fd, b, fun base kb nb => fnr_ok (g base kb nb) h1 h2⟩)
    (fun w H a ns hl _ hS => ⟨H, [.scr ns], .val (.bl true), fun _ _ e => e, .cons (.scr hS) .nil, hR ns hl, fun v F' H' _ r => by cases r; rfl⟩) fun _ _ _ _ _ z => z
end CS

namespace CS
open PySem L2
def topS (i : Nat) : Stmt := PySem.Challenge.pw_callsmith_k02_trees_within.main.body.getD i (.Pass ⟨0, 0, 0, 0⟩)
abbrev BB : List Str := ["isinstance", "len", "list", "range", "tuple"]
/-! within -/
abbrev s_within : Stmt := topS 1
abbrev n_within : List Str := ["tree"]
theorem sc_within : FnScope n_within ["tree"] (defScope s_within) := ⟨rfl, rfl, rfl, by decide +kernel, rfl, by decide +kernel, by decide +kernel⟩
theorem kx_within {X : Cx} (hs : X.env.scope = defScope s_within) (hN : X.N = n_within) (hf : X.fn = fun _ => true) (hm : ∀ x ∈ BB, X.mg x = none) : Kx X ["tree"] ["tree"] [] ["list"] := kx_of (BB := BB) (by decide +kernel) hs hN hf hm
theorem bd_within {K : PySem.W.Frag} {f : Addr} {fd : FuncData} (F : Fun K "within" "within" s_within f fd) : Binds K fd ["tree"] [] := F.binds fun _ _ _ _ _ _ us hl => match us, hl with | [_], _ => rfl
/-! _law_cell_at -/
abbrev s_law_cell_at : Stmt := topS 3
abbrev n_law_cell_at : List Str := ["_law_script", "_law_k"]
theorem sc_law_cell_at : FnScope n_law_cell_at ["_law_script", "_law_k"] (defScope s_law_cell_at) := ⟨rfl, rfl, rfl, by decide +kernel, rfl, by decide +kernel, by decide +kernel⟩
theorem kx_law_cell_at {X : Cx} (hs : X.env.scope = defScope s_law_cell_at) (hN : X.N = n_law_cell_at) (hf : X.fn = fun _ => true) (hm : ∀ x ∈ BB, X.mg x = none) : Kx X ["_law_script", "_law_k"] ["_law_script", "_law_k"] [] ["len"] := kx_of (BB := BB) (by decide +kernel) hs hN hf hm
theorem bd_law_cell_at {K : PySem.W.Frag} {f : Addr} {fd : FuncData} (F : Fun K "_law_cell_at" "_law_cell_at" s_law_cell_at f fd) : Binds K fd ["_law_script", "_law_k"] [] := F.binds fun _ _ _ _ _ _ us hl => match us, hl with | [_, _], _ => rfl
/-! _law_name -/
abbrev s_law_name : Stmt := topS 4
abbrev n_law_name : List Str := ["_law_cell", "_law_some", "_law_k"]
theorem sc_law_name : FnScope n_law_name ["_law_cell"] (defScope s_law_name) := ⟨rfl, rfl, rfl, by decide +kernel, rfl, by decide +kernel, by decide +kernel⟩
theorem kx_law_name {X : Cx} (hs : X.env.scope = defScope s_law_name) (hN : X.N = n_law_name) (hf : X.fn = fun _ => true) (hm : ∀ x ∈ BB, X.mg x = none) : Kx X ["_law_cell", "_law_some"] ["_law_cell", "_law_some"] [] ["range"] := kx_of (BB := BB) (by decide +kernel) hs hN hf hm
theorem bd_law_name {K : PySem.W.Frag} {f : Addr} {fd : FuncData} (F : Fun K "_law_name" "_law_name" s_law_name f fd) : Binds K fd ["_law_cell"] [] := F.binds fun _ _ _ _ _ _ us hl => match us, hl with | [_], _ => rfl
abbrev kv_law_name_0 : List Str := ["_law_k", "_law_some", "_law_cell"]
abbrev kl_law_name_0 : List Str := ["_law_k"]
abbrev kg_law_name_0 : List Str := []
abbrev kb_law_name_0 : List Str := []
-- own: [("_law_k", 2)]
/-! _law_part -/
abbrev s_law_part : Stmt := topS 5
abbrev n_law_part : List Str := ["_law_cell", "_law_rest"]
theorem sc_law_part : FnScope n_law_part ["_law_cell"] (defScope s_law_part) := ⟨rfl, rfl, rfl, by decide +kernel, rfl, by decide +kernel, by decide +kernel⟩
theorem kx_law_part {X : Cx} (hs : X.env.scope = defScope s_law_part) (hN : X.N = n_law_part) (hf : X.fn = fun _ => true) (hm : ∀ x ∈ BB, X.mg x = none) : Kx X ["_law_cell", "_law_rest"] ["_law_cell", "_law_rest"] ["_law_name"] [] := kx_of (BB := BB) (by decide +kernel) hs hN hf hm
theorem bd_law_part {K : PySem.W.Frag} {f : Addr} {fd : FuncData} (F : Fun K "_law_part" "_law_part" s_law_part f fd) : Binds K fd ["_law_cell"] [] := F.binds fun _ _ _ _ _ _ us hl => match us, hl with | [_], _ => rfl
/-! law -/
abbrev s_law : Stmt := topS 6
abbrev n_law : List Str := ["_law_script", "_law_words", "_law_word", "_law_name_here", "_law_parts", "_law_due", "_law_tree", "_law_found", "_law_k"]
theorem sc_law : FnScope n_law ["_law_script"] (defScope s_law) := ⟨rfl, rfl, rfl, by decide +kernel, rfl, by decide +kernel, by decide +kernel⟩
theorem kx_law {X : Cx} (hs : X.env.scope = defScope s_law) (hN : X.N = n_law) (hf : X.fn = fun _ => true) (hm : ∀ x ∈ BB, X.mg x = none) : Kx X ["_law_script", "_law_words", "_law_word", "_law_name_here", "_law_parts", "_law_due", "_law_tree", "_law_found"] ["_law_script", "_law_words", "_law_word", "_law_name_here", "_law_parts", "_law_due", "_law_tree", "_law_found"] ["_law_cell_at", "_law_name", "within"] ["range", "tuple", "isinstance", "list"] := kx_of (BB := BB) (by decide +kernel) hs hN hf hm
theorem bd_law {K : PySem.W.Frag} {f : Addr} {fd : FuncData} (F : Fun K "law" "law" s_law f fd) : Binds K fd ["_law_script"] [] := F.binds fun _ _ _ _ _ _ us hl => match us, hl with | [_], _ => rfl
abbrev kv_law_0 : List Str := ["_law_k", "_law_script"]
abbrev kl_law_0 : List Str := ["_law_k"]
abbrev kg_law_0 : List Str := ["_law_part", "_law_cell_at"]
abbrev kb_law_0 : List Str := []
-- own: [("_law_k", 8)]
local macro_rules | `(tactic| walk_at "hook") => `(tactic| fail)
/-- side conditions of arithmetic -/
local macro_rules | `(tactic| walk_at "side") => `(tactic| first | decide | omega | assumption | exact cdiv_of (by decide) | exact cmulL (by omega) | exact cmulR (by omega) | exact cpow_of (by decide) | (rw [rngD_len]; omega))
/-- the walk, as far as it goes by itself -/
local macro_rules | `(tactic| walk_at "gg") => `(tactic| ((repeat (first | refine Step.imp ?_ | with_reducible refine r_joinS ?_ | walk_at "hook" | (with_reducible refine And.intro ?ss ?_; (case ss => walk_at "side")))); try exact True.intro))
/-- the same, both ways of each open test -/
local macro_rules | `(tactic| walk_at "gs") => `(tactic| (walk_at "gg"; try ((first | refine iteD (fun _ => ?_) (fun _ => ?_) | refine iteND (fun _ => ?_) (fun _ => ?_)) <;> walk_at "gs")))
def cellAt (ns : List Int) (k : Int) : Int := if k < ns.length then (atI ns k).getD 0 else 0
inductive RCellAt : List Dat → Oc → Prop
  | mk (ns : List Int) (k : Int) (hk : 0 ≤ k) : RCellAt [.scr ns, .int k] (.val (.int (cellAt ns k)))
/-- the trees right within a tree, by its parts -/
inductive RWithin : List Dat → Oc → Prop
  | num (d : Dat) : RWithin [.tup [.str "num", d]] (.val (.lst []))
  | name (d : Dat) : RWithin [.tup [.str "name", d]] (.val (.lst []))
  | dlet (x a b : Dat) : RWithin [.tup [.str "let", x, a, b]] (.val (.lst [a, b]))
  | call (x : Dat) (xs : List Dat) : RWithin [.tup [.str "call", x, .tup xs]] (.val (.lst xs))
  | choose (a b c : Dat) : RWithin [.tup [.str "choose", a, b, c]] (.val (.lst [a, b, c]))
  | deed (w : Str) (hw : w = "sum" ∨ w = "less" ∨ w = "times" ∨ w = "part" ∨ w = "below") (a b : Dat) : RWithin [.tup [.str w, a, b]] (.val (.lst [a, b]))
section
variable {P : Program} {w : World} {K : PySem.W.Frag} {mg : Str → Option Value} {base : Heap} {f : Addr} {fd : FuncData}
theorem at_get {ns : List Int} {k : Int} (h0 : 0 ≤ k) (h : k < ns.length) : atI ns k = some ((atI ns k).getD 0) := by
  have e : atI ns k = ns[k.toNat]? := by
    unfold atI ixN
    rw [if_pos h0, if_pos h]
    rfl
  rw [e, List.getElem?_eq_getElem (by omega)]
  rfl
theorem ok_cell_at (T : Fun K "_law_cell_at" "_law_cell_at" s_law_cell_at f fd) (hm : ∀ x ∈ BB, mg x = none) : FnR P w K mg base CX0 1 f fd ["_law_script", "_law_k"] (spD K RCellAt) := by
  refine def0 T sc_law_cell_at (by decide) (fun as o h => by cases h; rfl) fun X E as o b h => ?_
  obtain ⟨rfl, rfl, rfl, rfl, rfl, nn, sc, fn, calm, room, pass, stk, frm⟩ := b
  haveI : Kc X _ _ _ _ := ⟨kx_law_cell_at sc nn fn hm⟩
  haveI : Rc X := ⟨_, room⟩
  haveI : Cc X := ⟨calm⟩
  cases h with
  | mk ns i hk =>
    dsimp only [zipD, n_law_cell_at]
    refine hss_cons ?_
    walk_at "gg"
    refine ite2 (fun c => ?_) (fun c => ?_)
    · have c' := of_decide_eq_true c
      walk_at "gg"
      refine ⟨_, _, rfl, Ixd.scr (at_get hk c'), ?_⟩
      show DV.d _ = DV.d _
      rw [cellAt, if_pos c']
    · have c' : ¬ i < ns.length := fun z => c (decide_eq_true z)
      walk_at "gg"
      show DV.d _ = DV.d _
      rw [cellAt, if_neg c']
theorem ok_within (T : Fun K "within" "within" s_within f fd) (hm : ∀ x ∈ BB, mg x = none) : FnR P w K mg base CX0 1 f fd ["tree"] (spD K RWithin) := by
  refine def0 T sc_within (by decide) (fun as o h => by cases h <;> rfl) fun X E as o b h => ?_
  obtain ⟨rfl, rfl, rfl, rfl, rfl, nn, sc, fn, calm, room, pass, stk, frm⟩ := b
  haveI : Kc X _ _ _ _ := ⟨kx_within sc nn fn hm⟩
  haveI : Rc X := ⟨_, room⟩
  haveI : Cc X := ⟨calm⟩
  cases h with
  | num d =>
    dsimp only [zipD, n_within]
    refine hss_cons ?_
    walk_at "gg"
  | name d =>
    dsimp only [zipD, n_within]
    refine hss_cons ?_
    walk_at "gg"
  | dlet x a c =>
    dsimp only [zipD, n_within]
    refine hss_cons ?_
    walk_at "gg"
  | call x xs =>
    dsimp only [zipD, n_within]
    refine hss_cons ?_
    walk_at "gg"
  | choose a b c =>
    dsimp only [zipD, n_within]
    refine hss_cons ?_
    walk_at "gg"
  | deed w hw a c =>
    rcases hw with rfl | rfl | rfl | rfl | rfl
    all_goals
      dsimp only [zipD, n_within]
      refine hss_cons ?_
      walk_at "gg"
/-- _law_name: some text -/
def nameCs (cell : Int) : List Str := (List.range (1 + cell % 8).toNat).map fun (k : Nat) =>
  (⟨#[((atI (Str.ofString "abcdefghijklmnopqrstuvwxyz").cps.toList ((cell / 8 + (k : Int) * (1 + cell / 208 % 25)) % 26)).getD 0)]⟩ : Str)
def nameD (cell : Int) : Str := Txt.join "" (nameCs cell)
def partD (c : Int) : Dat := if c % 4 = 0 then .tup [.str "name", .str (nameD (c / 4))]
  else if c % 4 = 1 then .tup [.str "times", .tup [.str "num", .int (c / 4 % 1000)], .tup [.str "name", .str (nameD (c / 4 / 1000))]]
  else if c % 4 = 2 then .tup [.str "call", .str (nameD (c / 4)), .tup [.tup [.str "num", .int (c / 4 % 7)]]]
  else .tup [.str "num", .int (c / 4 % 2000000000001 - 1000000000000)]
theorem sum_le : ∀ {l : List Nat}, (∀ x ∈ l, x = 1) → l.sum = l.length
  | [], _ => rfl
  | x :: l, h => by
    rw [List.sum_cons, List.length_cons, h x List.mem_cons_self, sum_le fun y hy => h y (List.mem_cons_of_mem _ hy), Nat.add_comm]
inductive RName : List Dat → Oc → Prop
  | mk (c : Int) : RName [.int c] (.val (.str (nameD c)))
theorem alpha_len : (Str.ofString "abcdefghijklmnopqrstuvwxyz").cps.toList.length = 26 := by decide +kernel
theorem at_alpha (x : Int) (h0 : 0 ≤ x) (h : x < 26) : atI (Str.ofString "abcdefghijklmnopqrstuvwxyz").cps.toList x = some ((atI (Str.ofString "abcdefghijklmnopqrstuvwxyz").cps.toList x).getD 0) := by
  have e : atI (Str.ofString "abcdefghijklmnopqrstuvwxyz").cps.toList x = (Str.ofString "abcdefghijklmnopqrstuvwxyz").cps.toList[x.toNat]? := by
    unfold atI ixN
    rw [if_pos h0, if_pos (by rw [alpha_len]; exact h)]
    rfl
  rw [e, List.getElem?_eq_getElem (by rw [alpha_len]; omega)]
  rfl
theorem ok_name (T : Fun K "_law_name" "_law_name" s_law_name f fd) (hm : ∀ x ∈ BB, mg x = none) : FnR P w K mg base CX0 1 f fd ["_law_cell"] (spD K RName) := by
  refine def0 T sc_law_name (by decide) (fun as o h => by cases h; rfl) fun X E as o b h => ?_
  obtain ⟨rfl, rfl, rfl, rfl, rfl, nn, sc, fn, calm, room, pass, stk, frm⟩ := b
  have kx := kx_law_name sc nn fn hm
  haveI : Kc X _ _ _ _ := ⟨kx⟩
  haveI : Rc X := ⟨_, room⟩
  haveI : Cc X := ⟨calm⟩
  cases h with
  | mk c =>
    dsimp only [zipD, n_law_name]
    refine hss_cons ?_
    walk_at "gg"
    refine lcN (x := "_law_k") (i := 2) (V' := kv_law_name_0) (L' := kl_law_name_0) (G' := kg_law_name_0) (B' := kb_law_name_0) (fun n _ => .str ⟨#[((atI (Str.ofString "abcdefghijklmnopqrstuvwxyz").cps.toList ((c / 8 + (n : Int) * (1 + c / 208 % 25)) % 26)).getD 0)]⟩) calm kx.nd nn sc hm (by decide +kernel) (by decide +kernel) rfl (by repeat constructor) ?_
    walk_at "gg"
    refine ⟨fun D acc n y hy => ?_, ?_⟩
    · obtain ⟨hn, rfl⟩ := rngD_get hy
      walk_at "gg"
      intro Y sy ky
      haveI : Kc Y _ _ _ _ := ⟨ky⟩
      haveI : Rc Y := .same sy inferInstance
      haveI : Cc Y := .same sy inferInstance
      walk_at "gg"
      rw [Int.zero_add]
      exact ⟨_, _, rfl, .str (by decide +kernel) (at_alpha _ (Int.emod_nonneg _ (by decide)) (Int.emod_lt_of_pos _ (by decide))), rfl, rfl⟩
    · refine ⟨nameCs c, ?_, ?_, ?_⟩
      · rw [rngD_mapIdx, nameCs, List.map_map]
        exact .dat
      · have e : ∀ x ∈ (nameCs c).map (·.length), x = 1 := by
          intro x hx
          obtain ⟨y, hy, rfl⟩ := List.mem_map.mp hx
          obtain ⟨k, _, rfl⟩ := List.mem_map.mp hy
          rfl
        have l : (nameCs c).length ≤ 8 := by
          rw [nameCs, List.length_map, List.length_range]
          omega
        have := sum_le e
        rw [List.length_map] at this
        have z : (Str.ofString "").length = 0 := by decide +kernel
        rw [z]
        omega
      · exact rfl
inductive RPart : List Dat → Oc → Prop
  | mk (c : Int) : RPart [.int c] (.val (partD c))
instance {c : Int} : RelC RName [.int c] (.val (.str (nameD c))) := ⟨.mk c⟩
theorem ok_part {nf : Nat} (T : Fun K "_law_part" "_law_part" s_law_part f fd) (hm : ∀ x ∈ BB, mg x = none) (D1 : Def P w K mg base CX0 1 "_law_name" ["_law_cell"] (spD K RName)) : FnR P w K mg base CX0 2 f fd ["_law_cell"] (spD K RPart) := by
  refine def0 T sc_law_part (by decide) (fun as o h => by cases h; rfl) fun X E as o b h => ?_
  obtain ⟨rfl, rfl, rfl, rfl, rfl, nn, sc, fn, calm, room, pass, stk, frm⟩ := b
  have kx := kx_law_part sc nn fn hm
  haveI : Kc X _ _ _ _ := ⟨kx⟩
  haveI : Rc X := ⟨_, room⟩
  haveI : Cc X := ⟨calm⟩
  haveI : ∀ W, CallC X W "_law_name" RName := fun W => callC D1 room lets0 kx (by repeat constructor) (by decide)
  cases h with
  | mk c =>
    dsimp only [zipD, n_law_part]
    refine hss_cons ?_
    walk_at "gs"
    all_goals exact rt_eq (by simp [partD, *])
instance {c : Int} : RelC RPart [.int c] (.val (partD c)) := ⟨.mk c⟩
theorem partD_fits (c : Int) : fits (partD c) 60 = true := by
  unfold partD
  split
  · rfl
  split
  · rfl
  split <;> rfl
instance {X : Cx} {k : Bool → Prop} : Step (EqQ X (.d (.lst [])) (.d (.lst [])) k) (k true) := ⟨fun h => eqQ_same rfl h⟩
theorem eqQ_take {X : Cx} {ns : List Int} {l : List Dat} {n : Nat} {k : Bool → Prop} (h : k true)
    (e : l = List.take n [partD (cellAt ns 2), partD (cellAt ns 3), partD (cellAt ns 4), partD (cellAt ns 5), partD (cellAt ns 6), partD (cellAt ns 7)]) :
    EqQ X (.d (.lst l)) (.d (.lst (List.take n [partD (cellAt ns 2), partD (cellAt ns 3), partD (cellAt ns 4), partD (cellAt ns 5), partD (cellAt ns 6), partD (cellAt ns 7)]))) k := by
  subst e
  refine eqQ_same ?_ h
  simp only [fits, Bool.and_eq_true, bne_iff_ne]
  refine ⟨by decide, fitsL_all fun x hx => ?_⟩
  have hx := List.mem_of_mem_take hx
  simp only [List.mem_cons, List.not_mem_nil, or_false] at hx
  rcases hx with rfl | rfl | rfl | rfl | rfl | rfl <;> exact fits_mono _ (by decide) (partD_fits _)
local macro_rules | `(tactic| walk_at "hook") => `(tactic| first
  | with_reducible refine relP_of (RCellAt.mk _ _ (by omega)) ?_
  | with_reducible refine relP_of (RWithin.num _) ?_
  | with_reducible refine relP_of (RWithin.name _) ?_
  | with_reducible refine relP_of (RWithin.dlet _ _ _) ?_
  | with_reducible refine relP_of (RWithin.call _ _) ?_
  | with_reducible refine relP_of (RWithin.choose _ _ _) ?_
  | with_reducible refine relP_of (RWithin.deed _ (by first | exact Or.inl rfl | exact Or.inr (.inl rfl) | exact Or.inr (.inr (.inl rfl)) | exact Or.inr (.inr (.inr (.inl rfl))) | exact Or.inr (.inr (.inr (.inr rfl)))) _ _) ?_
  | with_reducible refine sldP_to (Int.emod_nonneg _ (by decide)) ?_
  | (refine eqQ_take ?_ ?ee; (case ee => rfl)))
inductive RLaw : List Dat → Oc → Prop
  | mk (ns : List Int) (hl : ns.length ≤ 63) : RLaw [.scr ns] (.val (.bl true))
theorem ok_law (T : Fun K "law" "law" s_law f fd) (hm : ∀ x ∈ BB, mg x = none) (D0 : Def P w K mg base CX0 1 "_law_cell_at" ["_law_script", "_law_k"] (spD K RCellAt)) (D1 : Def P w K mg base CX0 1 "_law_name" ["_law_cell"] (spD K RName))
    (D2 : Def P w K mg base CX0 2 "_law_part" ["_law_cell"] (spD K RPart)) (D3 : Def P w K mg base CX0 1 "within" ["tree"] (spD K RWithin)) : FnR P w K mg base CX0 3 f fd ["_law_script"] (spD K RLaw) := by
  refine def0 T sc_law (by decide) (fun as o h => by cases h; rfl) fun X E as o b h => ?_
  obtain ⟨rfl, rfl, rfl, rfl, rfl, nn, sc, fn, calm, room, pass, stk, frm⟩ := b
  have kx := kx_law sc nn fn hm
  haveI : Kc X _ _ _ _ := ⟨kx⟩
  haveI : Rc X := ⟨_, room⟩
  haveI : Cc X := ⟨calm⟩
  haveI : ∀ W, CallC X W "_law_cell_at" RCellAt := fun W => callC D0 room lets0 kx (by repeat constructor) (by decide)
  haveI : ∀ W, CallC X W "_law_name" RName := fun W => callC D1 room lets0 kx (by repeat constructor) (by decide)
  haveI : ∀ W, CallC X W "within" RWithin := fun W => callC D3 room lets0 kx (by repeat constructor) (by decide)
  cases h with
  | mk ns _ =>
    dsimp only [zipD, n_law]
    refine hss_cons ?_
    walk_at "gg"
    have hc : cellAt ns 0 % 10 = 0 ∨ cellAt ns 0 % 10 = 1 ∨ cellAt ns 0 % 10 = 2 ∨ cellAt ns 0 % 10 = 3 ∨ cellAt ns 0 % 10 = 4 ∨ cellAt ns 0 % 10 = 5 ∨ cellAt ns 0 % 10 = 6 ∨ cellAt ns 0 % 10 = 7 ∨ cellAt ns 0 % 10 = 8 ∨ cellAt ns 0 % 10 = 9 := by omega
    rcases hc with e | e | e | e | e | e | e | e | e | e
    all_goals
      rw [e]
      walk_at "gg"
      refine lcS (x := "_law_k") (i := 8) (V' := kv_law_0) (L' := kl_law_0) (G' := kg_law_0) (B' := kb_law_0) (fun n _ => partD (cellAt ns (2 + n))) calm nn sc hm (by decide +kernel) (by decide +kernel) rfl (by repeat constructor) rfl (by decide +kernel) (by decide +kernel) (by decide +kernel) ?_
      walk_at "gg"
      refine ⟨fun D acc n y hy => ?_, ?_⟩
      · obtain ⟨hn, rfl⟩ := rngD_get hy
        walk_at "gg"
        intro Y sy ky
        haveI : Kc Y _ _ _ _ := ⟨ky⟩
        haveI : Rc Y := .same sy inferInstance
        haveI : Cc Y := .same sy inferInstance
        haveI : CallC Y W0 "_law_cell_at" RCellAt := callB sy D0 room lets0 ky (by repeat constructor) (by decide)
        haveI : CallC Y W0 "_law_part" RPart := callB sy D2 room lets0 ky (by repeat constructor) (by decide)
        walk_at "gg"
        rw [Int.zero_add]
        exact ⟨rfl, rfl⟩
      · rw [show (rngD 0 (Int.toNat 6)).mapIdx (fun n _ => partD (cellAt ns (2 + n))) = [partD (cellAt ns 2), partD (cellAt ns 3), partD (cellAt ns 4), partD (cellAt ns 5), partD (cellAt ns 6), partD (cellAt ns 7)] from rfl]
        walk_at "gg"
        exact rt_eq (by simp)
end
theorem ok_all {P : Program} {w : World} {K : PySem.W.Frag} {mg : Str → Option Value} {base : Heap} {f : Addr} {fd : FuncData} (T : Fun K "law" "law" s_law f fd) (hm : ∀ x ∈ BB, mg x = none) (T_within : FunAt K mg "within" "within" s_within) (T_law_cell_at : FunAt K mg "_law_cell_at" "_law_cell_at" s_law_cell_at) (T_law_name : FunAt K mg "_law_name" "_law_name" s_law_name) (T_law_part : FunAt K mg "_law_part" "_law_part" s_law_part) : FnR P w K mg base CX0 3 f fd ["_law_script"] (spD K RLaw) := by
  have D0 : Def P w K mg base CX0 1 "_law_cell_at" _ (spD K RCellAt) := def_of T_law_cell_at (fun _ _ F => bd_law_cell_at F) fun F => ok_cell_at F hm
  have D1 : Def P w K mg base CX0 1 "_law_name" _ (spD K RName) := def_of T_law_name (fun _ _ F => bd_law_name F) fun F => ok_name F hm
  have D2 : Def P w K mg base CX0 2 "_law_part" _ (spD K RPart) := def_of T_law_part (fun _ _ F => bd_law_part F) fun F => ok_part (nf := 0) F hm D1
  have D3 : Def P w K mg base CX0 1 "within" _ (spD K RWithin) := def_of T_within (fun _ _ F => bd_within F) fun F => ok_within F hm
  exact ok_law T hm D0 D1 D2 D3
theorem all_mk {l : PySem.W.OpenLaw} {w : World} {K : PySem.W.Frag} {h : Heap} {mg : Str → Option Value} {fa f1 f2 f3 f4 f5 : Addr} (X : K.In h) (G : h.Ns mainGlobals mg) (hfa : mg "law" = some (.ref fa))
    {od1 an1 od2 an2 od3 an3 od4 an4 od5 an5 : Option Addr} {sl1 sl2 sl3 sl4 sl5 : Array (Option Value)} {oc1 kV1 dc1 pm1 cd1 ct1 oc2 kV2 dc2 pm2 cd2 ct2 oc3 kV3 dc3 pm3 cd3 ct3 oc4 kV4 dc4 pm4 cd4 ct4 oc5 kV5 dc5 pm5 cd5 ct5 : Value}
    (a1 : PySem.W.nsIn K mainGlobals "within" = some (some (.ref f1))) (l1 : K.lookup f1 = some ⟨oc1, od1, .func (PySem.W.fnOf "within" "within" (defArgs s_within) (defBody s_within) (defScope s_within) .none kV1 dc1 pm1 an1 cd1 ct1), sl1⟩) (c1 : PySem.W.codeIn K cd1 "within" = true) (k1 : PySem.W.keepIn K (.ref f1) = true)
    (a2 : PySem.W.nsIn K mainGlobals "_law_cell_at" = some (some (.ref f2))) (l2 : K.lookup f2 = some ⟨oc2, od2, .func (PySem.W.fnOf "_law_cell_at" "_law_cell_at" (defArgs s_law_cell_at) (defBody s_law_cell_at) (defScope s_law_cell_at) .none kV2 dc2 pm2 an2 cd2 ct2), sl2⟩) (c2 : PySem.W.codeIn K cd2 "_law_cell_at" = true) (k2 : PySem.W.keepIn K (.ref f2) = true)
    (a3 : PySem.W.nsIn K mainGlobals "_law_name" = some (some (.ref f3))) (l3 : K.lookup f3 = some ⟨oc3, od3, .func (PySem.W.fnOf "_law_name" "_law_name" (defArgs s_law_name) (defBody s_law_name) (defScope s_law_name) .none kV3 dc3 pm3 an3 cd3 ct3), sl3⟩) (c3 : PySem.W.codeIn K cd3 "_law_name" = true) (k3 : PySem.W.keepIn K (.ref f3) = true)
    (a4 : PySem.W.nsIn K mainGlobals "_law_part" = some (some (.ref f4))) (l4 : K.lookup f4 = some ⟨oc4, od4, .func (PySem.W.fnOf "_law_part" "_law_part" (defArgs s_law_part) (defBody s_law_part) (defScope s_law_part) .none kV4 dc4 pm4 an4 cd4 ct4), sl4⟩) (c4 : PySem.W.codeIn K cd4 "_law_part" = true) (k4 : PySem.W.keepIn K (.ref f4) = true)
    (a5 : PySem.W.nsIn K mainGlobals "law" = some (some (.ref f5))) (l5 : K.lookup f5 = some ⟨oc5, od5, .func (PySem.W.fnOf "law" "law" (defArgs s_law) (defBody s_law) (defScope s_law) .none kV5 dc5 pm5 an5 cd5 ct5), sl5⟩) (c5 : PySem.W.codeIn K cd5 "law" = true) (k5 : PySem.W.keepIn K (.ref f5) = true)
    (z0 : PySem.W.nsIn K mainGlobals "isinstance" = some none)
    (z1 : PySem.W.nsIn K mainGlobals "len" = some none)
    (z2 : PySem.W.nsIn K mainGlobals "list" = some none)
    (z3 : PySem.W.nsIn K mainGlobals "range" = some none)
    (z4 : PySem.W.nsIn K mainGlobals "tuple" = some none)
    : ∃ fd : FuncData, (∀ (s : Shared) (v : Value), BindsTo s fd ⟨[v], []⟩ [("_law_script", v)]) ∧ ∀ base : Heap, K.In base → base.Ns mainGlobals mg → FnR l.prog w K mg base CX0 3 fa fd ["_law_script"] (spD K RLaw) := by
  have e := hfa.symm.trans (PySem.W.mg_of X G a5)
  cases e
  refine ⟨(PySem.W.fnOf "law" "law" (defArgs s_law) (defBody s_law) (defScope s_law) .none kV5 dc5 pm5 an5 cd5 ct5), fun s v => .of_eq rfl, fun base _ _ => ?_⟩
  have hm : ∀ x ∈ BB, mg x = none := by
    intro x hx
    simp only [BB, List.mem_cons, List.not_mem_nil, or_false] at hx
    rcases hx with rfl | rfl | rfl | rfl | rfl
    · exact PySem.W.mg_none_of X G z0
    · exact PySem.W.mg_none_of X G z1
    · exact PySem.W.mg_none_of X G z2
    · exact PySem.W.mg_none_of X G z3
    · exact PySem.W.mg_none_of X G z4
  exact ok_all (fun_mk (st := s_law) l5 c5 k5) hm ⟨_, _, fun_mk (st := s_within) l1 c1 k1, PySem.W.mg_of X G a1⟩ ⟨_, _, fun_mk (st := s_law_cell_at) l2 c2 k2, PySem.W.mg_of X G a2⟩ ⟨_, _, fun_mk (st := s_law_name) l3 c3 k3, PySem.W.mg_of X G a3⟩ ⟨_, _, fun_mk (st := s_law_part) l4 c4 k4, PySem.W.mg_of X G a4⟩
end CS
open PySem PySem.W PyProof.Rows
set_option maxRecDepth 100000 in
set_option maxHeartbeats 0 in
theorem PySem.Challenge.cw_callsmith_k02_trees_within_holds : PySem.Challenge.rw_callsmith_k02_trees_within.Holds := by
  w_on; o_law; k_head; (case hw => w_witness2)
  k_fill
  refine CS.walk_cs (Rel := CS.RLaw) (d := 3) (k := 52) (l := PySem.Challenge.rw_callsmith_k02_trees_within) rfl rfl (by decide) (by decide) ⟨rfl, by decide, by decide⟩ (fun w h Y => PySem.W.kIn_of Y) ?F (fun ns h => CS.RLaw.mk ns h)
  case F =>
    intro w mg fa h KX G hmg
    refine' CS.all_mk KX G hmg ?a1 ?l1 ?c1 ?k1 ?a2 ?l2 ?c2 ?k2 ?a3 ?l3 ?c3 ?k3 ?a4 ?l4 ?c4 ?k4 ?a5 ?l5 ?c5 ?k5 ?z0 ?z1 ?z2 ?z3 ?z4
    (case a1 => k_is)
    (case l1 => k_is)
    (case c1 => k_is)
    (case k1 => k_is)
    (case a2 => k_is)
    (case l2 => k_is)
    (case c2 => k_is)
    (case k2 => k_is)
    (case a3 => k_is)
    (case l3 => k_is)
    (case c3 => k_is)
    (case k3 => k_is)
    (case a4 => k_is)
    (case l4 => k_is)
    (case c4 => k_is)
    (case k4 => k_is)
    (case a5 => k_is)
    (case l5 => k_is)
    (case c5 => k_is)
    (case k5 => k_is)
    (case z0 => k_is)
    (case z1 => k_is)
    (case z2 => k_is)
    (case z3 => k_is)
    (case z4 => k_is)
#print axioms PySem.Challenge.cw_callsmith_k02_trees_within_holds

