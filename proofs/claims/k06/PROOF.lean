import PyProof.Rows.All
import Wide.All
import OpenK.AllK
import Wide.FinOn
import HandS.ForMost
import HandS.Exc
import HandS.TryOnly
import HandS.TryMany
import HandS.ExcOwn
import HandS.WordsExc
import HandS.ExcValue
import KE.DataEq
import HandS.IsInst
import HandS.Ends
import HandS.ExcIs
import HandS.Dict
import HandS.Small
import KE.GoesMore
import HandS.Strs
import HandS.SetFor
import KE.KxText
import KE.GoesEnum
import HandS.Flt
import HandS.Rev
import HandS.RevTup
import KE.KDictList
import KE.KDictZip
import HandS.HotCalls
import HandS.ExcCtx
import HandS.ListItems
import HandS.Deep
import HandS.More
import PySem.Challenge.RW_callsmith_k06_rows_done
set_option Elab.async false
set_option linter.all false
set_option maxRecDepth 100000
set_option maxHeartbeats 4000000
/-! CsBase: immutable data (Dat) over the heap, things that may change (Mem), and a calculus of what statements do, told by data alone. -/
namespace CS
open PySem L2

/-- plain data: what a value stands for -/
inductive Dat where
  | non | bl (b : Bool) | int (i : Int) | str (s : Str)
  | tup (xs : List Dat) | lst (xs : List Dat) | scr (ns : List Int) | dct (kvs : List (Key × Dat))
  | exn (C : Addr)

mutual
/-- the value v stands for d, by what the frozen part F tells -/
inductive Rp (K : PySem.W.Frag) (F : Hp) : V → Dat → Prop
  | non : Rp K F .non .non
  | bl (b : Bool) : Rp K F (.bl b) (.bl b)
  | int (i : Int) : Rp K F (.int i) (.int i)
  | str (s : Str) : Rp K F (.str s) (.str s)
  | tup {a : Addr} {vs : List V} {ds : List Dat} : F a = some (.tup vs) → RpL K F vs ds → Rp K F (.ref a) (.tup ds)
  | lst {a : Addr} {vs : List V} {ds : List Dat} : F a = some (.lst vs) → RpL K F vs ds → Rp K F (.ref a) (.lst ds)
  | scr {a : Addr} {ns : List Int} : SqL K F a (ns.map V.int) → Rp K F (.ref a) (.scr ns)
  | dct {a : Addr} {o : Obj} {vs : List (Key × V)} {ds : List (Key × Dat)} : F a = some (.frz o (.dK vs)) → RpK K F vs ds → Rp K F (.ref a) (.dct ds)
  | exn {a C : Addr} : F a = some (ExO (.ref C) a) → Rp K F (.ref a) (.exn C)
inductive RpL (K : PySem.W.Frag) (F : Hp) : List V → List Dat → Prop
  | nil : RpL K F [] []
  | cons {v : V} {d : Dat} {vs : List V} {ds : List Dat} : Rp K F v d → RpL K F vs ds → RpL K F (v :: vs) (d :: ds)
inductive RpK (K : PySem.W.Frag) (F : Hp) : List (Key × V) → List (Key × Dat) → Prop
  | nil : RpK K F [] []
  | cons {k : Key} {v : V} {d : Dat} {vs : List (Key × V)} {ds : List (Key × Dat)} : Rp K F v d → RpK K F vs ds → RpK K F ((k, v) :: vs) ((k, d) :: ds)
end

section
variable {K : PySem.W.Frag} {F F' : Hp}
mutual
theorem Rp.mono (s : Same F F') : ∀ {v : V} {d : Dat}, Rp K F v d → Rp K F' v d
  | _, _, .non => .non
  | _, _, .bl b => .bl b
  | _, _, .int i => .int i
  | _, _, .str x => .str x
  | _, _, .tup h r => .tup (s _ _ h) (RpL.mono s r)
  | _, _, .lst h r => .lst (s _ _ h) (RpL.mono s r)
  | _, _, .scr h => .scr (s.seq h)
  | _, _, .dct h r => .dct (s _ _ h) (RpK.mono s r)
  | _, _, .exn h => .exn (s _ _ h)
theorem RpL.mono (s : Same F F') : ∀ {vs : List V} {ds : List Dat}, RpL K F vs ds → RpL K F' vs ds
  | _, _, .nil => .nil
  | _, _, .cons h r => .cons (Rp.mono s h) (RpL.mono s r)
theorem RpK.mono (s : Same F F') : ∀ {vs : List (Key × V)} {ds : List (Key × Dat)}, RpK K F vs ds → RpK K F' vs ds
  | _, _, .nil => .nil
  | _, _, .cons h r => .cons (Rp.mono s h) (RpK.mono s r)
end
theorem RpL.len : ∀ {vs : List V} {ds : List Dat}, RpL K F vs ds → vs.length = ds.length
  | _, _, .nil => rfl
  | _, _, .cons _ r => congrArg (· + 1) (RpL.len r)
theorem RpL.get : ∀ {vs : List V} {ds : List Dat} {i : Nat} {d : Dat}, RpL K F vs ds → ds[i]? = some d → ∃ v, vs[i]? = some v ∧ Rp K F v d
  | _, _, _, _, .nil, e => by simp at e
  | _, _, 0, _, .cons h _, e => by
    have e' := Option.some.inj e
    subst e'
    exact ⟨_, rfl, h⟩
  | _, _, i + 1, d, .cons _ r, e => by
    obtain ⟨v, h1, h2⟩ := RpL.get (i := i) (d := d) r (by simpa using e)
    exact ⟨v, by simpa using h1, h2⟩
theorem RpL.getV : ∀ {vs : List V} {ds : List Dat} {i : Nat} {v : V}, RpL K F vs ds → vs[i]? = some v → ∃ d, ds[i]? = some d ∧ Rp K F v d
  | _, _, _, _, .nil, e => by simp at e
  | _, _, 0, _, .cons h _, e => by
    have e' := Option.some.inj e
    subst e'
    exact ⟨_, rfl, h⟩
  | _, _, i + 1, d, .cons _ r, e => by
    obtain ⟨v, h1, h2⟩ := RpL.getV (i := i) (v := d) r (by simpa using e)
    exact ⟨v, by simpa using h1, h2⟩
theorem RpL.append : ∀ {vs ws : List V} {ds es : List Dat}, RpL K F vs ds → RpL K F ws es → RpL K F (vs ++ ws) (ds ++ es)
  | _, _, _, _, .nil, s => s
  | _, _, _, _, .cons h r, s => .cons h (RpL.append r s)
theorem RpL.take : ∀ {vs : List V} {ds : List Dat} (n : Nat), RpL K F vs ds → RpL K F (vs.take n) (ds.take n)
  | _, _, 0, _ => .nil
  | _, _, _ + 1, .nil => .nil
  | _, _, n + 1, .cons h r => .cons h (RpL.take n r)
theorem RpL.drop : ∀ {vs : List V} {ds : List Dat} (n : Nat), RpL K F vs ds → RpL K F (vs.drop n) (ds.drop n)
  | _, _, 0, r => r
  | _, _, _ + 1, .nil => .nil
  | _, _, n + 1, .cons _ r => RpL.drop n r
theorem RpL.set {v : V} {d : Dat} (h : Rp K F v d) : ∀ {vs : List V} {ds : List Dat} (n : Nat), RpL K F vs ds → RpL K F (vs.set n v) (ds.set n d)
  | _, _, _, .nil => .nil
  | _, _, 0, .cons _ r => .cons h r
  | _, _, n + 1, .cons g r => .cons g (RpL.set h n r)
theorem RpL.map_int : ∀ {ns : List Int}, RpL K F (ns.map V.int) (ns.map Dat.int)
  | [] => .nil
  | n :: ns => .cons (.int n) (RpL.map_int (ns := ns))
theorem RpL.int_inv : ∀ {ns : List Int} {vs : List V}, RpL K F vs (ns.map Dat.int) → vs = ns.map V.int
  | [], _, h => by
    cases h
    rfl
  | n :: ns, _, h => by
    cases h with
    | cons a r =>
      cases a
      rw [RpL.int_inv r]
      rfl
theorem RpL.str_inv : ∀ {ns : List Str} {vs : List V}, RpL K F vs (ns.map Dat.str) → vs = ns.map V.str
  | [], _, h => by
    cases h
    rfl
  | n :: ns, _, h => by
    cases h with
    | cons a r =>
      cases a
      rw [RpL.str_inv r]
      rfl
theorem RpL.map_str : ∀ {ns : List Str}, RpL K F (ns.map V.str) (ns.map Dat.str)
  | [] => .nil
  | n :: ns => .cons (.str n) (RpL.map_str (ns := ns))
end

/-! ### names, things that may change -/
/-- what a place holds: nothing known, data, a thing that may change at p -/
inductive DV where
  | no | d (x : Dat) | m (p : Addr)
/-- a thing that may change -/
inductive MO where
  | lst (xs : List DV) | dct (kvs : List (Key × DV)) | ins (C dx : Addr) (fs : List (Str × DV)) | tup (xs : List DV)
abbrev Mem := List (Addr × MO)
abbrev Slots := List (Str × DV)

def VOk (K : PySem.W.Frag) (F : Hp) (v : V) : DV → Prop
  | .no => True
  | .d x => Rp K F v x
  | .m p => v = .ref p
def SOk (K : PySem.W.Frag) (F : Hp) (o : Option V) (dv : DV) : Prop :=
  match dv with
  | .no => True
  | dv => ∃ v, o = some v ∧ VOk K F v dv
inductive VL (K : PySem.W.Frag) (F : Hp) : List V → List DV → Prop
  | nil : VL K F [] []
  | cons {v : V} {d : DV} {vs : List V} {ds : List DV} : VOk K F v d → VL K F vs ds → VL K F (v :: vs) (d :: ds)
inductive VK' (K : PySem.W.Frag) (F : Hp) : List (Key × V) → List (Key × DV) → Prop
  | nil : VK' K F [] []
  | cons {k : Key} {v : V} {d : DV} {vs : List (Key × V)} {ds : List (Key × DV)} : VOk K F v d → VK' K F vs ds → VK' K F ((k, v) :: vs) ((k, d) :: ds)
inductive VF (K : PySem.W.Frag) (F : Hp) : List (Str × V) → List (Str × DV) → Prop
  | nil : VF K F [] []
  | cons {k : Str} {v : V} {d : DV} {vs : List (Str × V)} {ds : List (Str × DV)} : VOk K F v d → VF K F vs ds → VF K F ((k, v) :: vs) ((k, d) :: ds)
inductive OOk (K : PySem.W.Frag) (F : Hp) : HO → MO → Prop
  | lst {vs : List V} {xs : List DV} : VL K F vs xs → OOk K F (.lst vs) (.lst xs)
  | tup {vs : List V} {xs : List DV} : VL K F vs xs → OOk K F (.tup vs) (.tup xs)
  | dct {vs : List (Key × V)} {xs : List (Key × DV)} : VK' K F vs xs → OOk K F (.dK vs) (.dct xs)
  | ins {C dx : Addr} {fs : List (Str × V)} {gs : List (Str × DV)} : VF K F fs gs → OOk K F (.ins C dx fs) (.ins C dx gs)
inductive EnvOk (K : PySem.W.Frag) (F : Hp) : St → Slots → Prop
  | nil : EnvOk K F [] []
  | cons {o : Option V} {x : Str} {d : DV} {σ : St} {ds : Slots} : SOk K F o d → EnvOk K F σ ds → EnvOk K F (o :: σ) ((x, d) :: ds)

section
variable {K : PySem.W.Frag} {F F' : Hp}
theorem VOk.mono (s : Same F F') {v : V} : ∀ {d : DV}, VOk K F v d → VOk K F' v d
  | .no, _ => trivial
  | .d _, h => Rp.mono s h
  | .m _, h => h
theorem SOk.mono (s : Same F F') {o : Option V} : ∀ {d : DV}, SOk K F o d → SOk K F' o d
  | .no, _ => trivial
  | .d _, ⟨v, e, h⟩ => ⟨v, e, Rp.mono s h⟩
  | .m _, h => h
theorem VL.mono (s : Same F F') : ∀ {vs : List V} {ds : List DV}, VL K F vs ds → VL K F' vs ds
  | _, _, .nil => .nil
  | _, _, .cons h r => .cons (h.mono s) (VL.mono s r)
theorem VK'.mono (s : Same F F') : ∀ {vs : List (Key × V)} {ds : List (Key × DV)}, VK' K F vs ds → VK' K F' vs ds
  | _, _, .nil => .nil
  | _, _, .cons h r => .cons (h.mono s) (VK'.mono s r)
theorem VF.mono (s : Same F F') : ∀ {vs : List (Str × V)} {ds : List (Str × DV)}, VF K F vs ds → VF K F' vs ds
  | _, _, .nil => .nil
  | _, _, .cons h r => .cons (h.mono s) (VF.mono s r)
theorem OOk.mono (s : Same F F') {o : HO} {m : MO} (h : OOk K F o m) : OOk K F' o m := by
  cases h with
  | lst h => exact .lst (VL.mono s h)
  | tup h => exact .tup (VL.mono s h)
  | dct h => exact .dct (VK'.mono s h)
  | ins h => exact .ins (VF.mono s h)
theorem EnvOk.mono (s : Same F F') : ∀ {σ : St} {ds : Slots}, EnvOk K F σ ds → EnvOk K F' σ ds
  | _, _, .nil => .nil
  | _, _, .cons h r => .cons (h.mono s) (EnvOk.mono s r)
theorem EnvOk.len : ∀ {σ : St} {ds : Slots}, EnvOk K F σ ds → σ.length = ds.length
  | _, _, .nil => rfl
  | _, _, .cons _ r => congrArg (· + 1) (EnvOk.len r)
theorem SOk.of {v : V} : ∀ {d : DV}, VOk K F v d → SOk K F (some v) d
  | .no, _ => trivial
  | .d _, h => ⟨v, rfl, h⟩
  | .m _, h => ⟨v, rfl, h⟩
theorem VL.len : ∀ {vs : List V} {ds : List DV}, VL K F vs ds → vs.length = ds.length
  | _, _, .nil => rfl
  | _, _, .cons _ r => congrArg (· + 1) (VL.len r)
theorem VL.get : ∀ {vs : List V} {ds : List DV} {i : Nat} {d : DV}, VL K F vs ds → ds[i]? = some d → ∃ v, vs[i]? = some v ∧ VOk K F v d
  | _, _, _, _, .nil, e => by simp at e
  | _, _, 0, _, .cons h _, e => by
    have e' := Option.some.inj e
    subst e'
    exact ⟨_, rfl, h⟩
  | _, _, i + 1, d, .cons _ r, e => by
    obtain ⟨v, h1, h2⟩ := VL.get (i := i) (d := d) r (by simpa using e)
    exact ⟨v, by simpa using h1, h2⟩
theorem VL.append : ∀ {vs ws : List V} {ds es : List DV}, VL K F vs ds → VL K F ws es → VL K F (vs ++ ws) (ds ++ es)
  | _, _, _, _, .nil, s => s
  | _, _, _, _, .cons h r, s => .cons h (VL.append r s)
theorem VL.of_data : ∀ {vs : List V} {ds : List Dat}, RpL K F vs ds → VL K F vs (ds.map .d)
  | _, _, .nil => .nil
  | _, _, .cons h r => .cons h (VL.of_data r)
theorem VL.to_data : ∀ {ds : List Dat} {vs : List V}, VL K F vs (ds.map .d) → RpL K F vs ds
  | [], _, h => by
    cases h
    exact .nil
  | d :: ds, _, h => by
    cases h with
    | cons a r => exact .cons a (VL.to_data r)
theorem VL.set {v : V} {d : DV} (h : VOk K F v d) : ∀ {vs : List V} {ds : List DV} (n : Nat), VL K F vs ds → VL K F (vs.set n v) (ds.set n d)
  | _, _, _, .nil => .nil
  | _, _, 0, .cons _ r => .cons h r
  | _, _, n + 1, .cons g r => .cons g (VL.set h n r)
end

/-! ### looking a name up, storing a name: by places -/
inductive Lk : Slots → Str → DV → Nat → Prop
  | here {x : Str} {v : DV} {r : Slots} : Lk ((x, v) :: r) x v 0
  | there {x y : Str} {v w : DV} {r : Slots} {i : Nat} : Lk r x v i → Lk ((y, w) :: r) x v (i + 1)
inductive Up : Slots → Str → DV → Slots → Nat → Prop
  | here {x : Str} {v w : DV} {r : Slots} : Up ((x, w) :: r) x v ((x, v) :: r) 0
  | there {x y : Str} {v w : DV} {r s : Slots} {i : Nat} : Up r x v s i → Up ((y, w) :: r) x v ((y, w) :: s) (i + 1)
theorem Lk.name : ∀ {ds : Slots} {x : Str} {v : DV} {i : Nat}, Lk ds x v i → (ds.map (·.1))[i]? = some x
  | _, _, _, _, .here => rfl
  | _, _, _, _, .there h => by
    rw [List.map_cons, List.getElem?_cons_succ]
    exact h.name
theorem Up.name : ∀ {ds es : Slots} {x : Str} {v : DV} {i : Nat}, Up ds x v es i → (ds.map (·.1))[i]? = some x
  | _, _, _, _, _, .here => rfl
  | _, _, _, _, _, .there h => by
    rw [List.map_cons, List.getElem?_cons_succ]
    exact h.name
theorem Up.names : ∀ {ds es : Slots} {x : Str} {v : DV} {i : Nat}, Up ds x v es i → es.map (·.1) = ds.map (·.1)
  | _, _, _, _, _, .here => rfl
  | _, _, _, _, _, .there h => by
    rw [List.map_cons, List.map_cons, h.names]
section
variable {K : PySem.W.Frag} {F : Hp}
theorem Lk.get : ∀ {σ : St} {ds : Slots} {x : Str} {v : DV} {i : Nat}, Lk ds x v i → EnvOk K F σ ds → ∃ o, σ[i]? = some o ∧ SOk K F o v
  | _, _, _, _, _, .here, .cons h _ => ⟨_, rfl, h⟩
  | _, _, _, _, _, .there l, .cons _ r => by
    obtain ⟨o, e, h⟩ := l.get r
    exact ⟨o, by rw [List.getElem?_cons_succ]; exact e, h⟩
theorem Up.set : ∀ {σ : St} {ds es : Slots} {x : Str} {v : DV} {i : Nat} {u : V}, Up ds x v es i → EnvOk K F σ ds → VOk K F u v → EnvOk K F (σ.set i (some u)) es
  | _, _, _, _, _, _, _, .here, .cons _ r, h => .cons (.of h) r
  | _, _, _, _, _, _, _, .there l, .cons g r, h => by
    rw [List.set_cons_succ]
    exact .cons g (l.set r h)
theorem Up.setNone : ∀ {σ : St} {ds es : Slots} {x : Str} {i : Nat}, Up ds x .no es i → EnvOk K F σ ds → EnvOk K F (σ.set i none) es
  | _, _, _, _, _, .here, .cons _ r => .cons trivial r
  | _, _, _, _, _, .there l, .cons g r => by
    rw [List.set_cons_succ]
    exact .cons g (l.setNone r)
end

/-! ### the state: F0, H0 at the def's entry; F frozen, H now; S: what the def may change of what stood -/
structure In (K : PySem.W.Frag) (S : Addr → Prop) (F0 H0 F H : Hp) (M : Mem) (σ : St) (ds : Slots) : Prop where
  env : EnvOk K F σ ds
  ff : Same F0 F
  fh : Same F H
  new : ∀ b o, F b = some o → F0 b = none → H0 b = none ∨ S b
  keep : ∀ b o, H0 b = some o → ¬ S b → H b = some o
  there : ∀ b o, H0 b = some o → ∃ u, H b = some u
  mem : ∀ e ∈ M, F e.1 = none ∧ ∃ o, H e.1 = some o ∧ OOk K F o e.2
  own : ∀ e ∈ M, H0 e.1 = none ∨ S e.1
  nd : (M.map (·.1)).Nodup

/-- what a step that changes nothing of ours leaves -/
structure Ext (F H F' H' : Hp) : Prop where
  ff : Same F F'
  hh : Same H H'
  fh : Same F' H'
  new : ∀ b o, F' b = some o → F b = none → H b = none
theorem Ext.refl {F H : Hp} (h : Same F H) : Ext F H F H := ⟨.refl _, .refl _, h, fun b o e n => by rw [n] at e; cases e⟩
/-- a new object, at once frozen -/
theorem Ext.lay {F H : Hp} {p : Addr} (o : HO) (h : Same F H) (n : H p = none) : Ext F H (upd F p o) (upd H p o) := by
  have nf : F p = none := h.free n
  refine ⟨fun b u e => ?_, fun b u e => ?_, fun b u e => ?_, fun b u e f => ?_⟩
  · rw [upd_ne (ne_of_none e nf)]; exact e
  · rw [upd_ne (ne_of_none e n)]; exact e
  · by_cases hb : b = p
    · subst hb
      rw [upd_same] at e ⊢
      exact e
    · rw [upd_ne hb] at e ⊢
      exact h b u e
  · by_cases hb : b = p
    · rw [hb]; exact n
    · rw [upd_ne hb, f] at e
      cases e
section
variable {K : PySem.W.Frag} {S : Addr → Prop} {F0 H0 F H F' H' : Hp} {M M' : Mem} {σ σ' : St} {ds ds' : Slots}
theorem In.ext (I : In K S F0 H0 F H M σ ds) (x : Ext F H F' H') : In K S F0 H0 F' H' M σ ds where
  env := I.env.mono x.ff
  ff := I.ff.trans x.ff
  fh := x.fh
  new := fun b o e n => by
    cases q : F b with
    | some u => exact I.new b u q n
    | none =>
      have z := x.new b o e q
      cases w : H0 b with
      | none => exact .inl rfl
      | some u =>
        obtain ⟨u', hu⟩ := I.there b u w
        rw [hu] at z
        cases z
  keep := fun b o e n => x.hh b o (I.keep b o e n)
  there := fun b o e => by
    obtain ⟨u, hu⟩ := I.there b o e
    exact ⟨u, x.hh b u hu⟩
  mem := fun e he => by
    obtain ⟨h1, o, h2, h3⟩ := I.mem e he
    refine ⟨?_, o, x.hh _ _ h2, h3.mono x.ff⟩
    cases q : F' e.1 with
    | none => rfl
    | some u =>
      have z := x.new _ u q h1
      rw [h2] at z
      cases z
  own := I.own
  nd := I.nd
theorem In.slots (I : In K S F0 H0 F H M σ ds) (e : EnvOk K F σ' ds') : In K S F0 H0 F H M σ' ds' := ⟨e, I.ff, I.fh, I.new, I.keep, I.there, I.mem, I.own, I.nd⟩
/-- the entry of a def -/
theorem In.start (fh : Same F H) (e : EnvOk K F σ ds) (hm : ∀ e ∈ M, F e.1 = none ∧ ∃ o, H e.1 = some o ∧ OOk K F o e.2) (hs : ∀ e ∈ M, S e.1) (nd : (M.map (·.1)).Nodup) : In K S F H F H M σ ds :=
  ⟨e, .refl _, fh, (fun b o a n => by rw [n] at a; cases a), fun b o a _ => a, fun b o a => ⟨o, a⟩, hm, fun e he => .inr (hs e he), nd⟩
theorem In.start0 (fh : Same F H) (e : EnvOk K F σ ds) : In K S F H F H [] σ ds := .start fh e (fun e he => absurd he (by simp)) (fun e he => absurd he (by simp)) List.nodup_nil
/-- a def that changes nothing of what stood -/
theorem In.out (I : In K (fun _ => False) F0 H0 F H M σ ds) : Ext F0 H0 F H := ⟨I.ff, fun b o e => I.keep b o e (fun z => z), I.fh, fun b o e n => (I.new b o e n).resolve_right fun z => z⟩
/-- a new thing that may change -/
theorem In.newM {p : Addr} {o : HO} {m : MO} (I : In K S F0 H0 F H M σ ds) (n : H p = none) (h : OOk K F o m) : In K S F0 H0 F (upd H p o) (M ++ [(p, m)]) σ ds := by
  have nf : F p = none := I.fh.free n
  have n0 : H0 p = none := by
    cases q : H0 p with
    | none => rfl
    | some u =>
      obtain ⟨u', hu⟩ := I.there p u q
      rw [n] at hu
      cases hu
  refine ⟨I.env, I.ff, fun b u e => ?_, I.new, fun b u e hs => ?_, fun b u e => ?_, fun e he => ?_, fun e he => ?_, ?_⟩
  · rw [upd_ne (ne_of_none e nf)]; exact I.fh b u e
  · rw [upd_ne (ne_of_none e n0)]; exact I.keep b u e hs
  · rw [upd_ne (ne_of_none e n0)]; exact I.there b u e
  · rcases List.mem_append.mp he with he | he
    · obtain ⟨h1, u, h2, h3⟩ := I.mem e he
      exact ⟨h1, u, by rw [upd_ne (ne_of_none h2 n)]; exact h2, h3⟩
    · have e' : e = (p, m) := List.mem_singleton.mp he
      subst e'
      exact ⟨nf, o, upd_same, h⟩
  · rcases List.mem_append.mp he with he | he
    · exact I.own e he
    · have e' : e = (p, m) := List.mem_singleton.mp he
      subst e'
      exact .inl n0
  · rw [List.map_append]
    refine List.nodup_append.mpr ⟨I.nd, by simp, fun a ha b hb => ?_⟩
    obtain ⟨e, he, rfl⟩ := List.mem_map.mp ha
    obtain ⟨_, u, h2, _⟩ := I.mem e he
    have e' : b = p := by simpa using hb
    rw [e']
    exact ne_of_none h2 n
theorem In.perm (I : In K S F0 H0 F H M σ ds) (h : M.Perm M') : In K S F0 H0 F H M' σ ds := ⟨I.env, I.ff, I.fh, I.new, I.keep, I.there, fun e he => I.mem e (h.mem_iff.mpr he), fun e he => I.own e (h.mem_iff.mpr he), (h.map _).nodup_iff.mp I.nd⟩
theorem In.newC {p : Addr} {o : HO} {m : MO} (I : In K S F0 H0 F H M σ ds) (n : H p = none) (h : OOk K F o m) : In K S F0 H0 F (upd H p o) ((p, m) :: M) σ ds := (I.newM n h).perm (List.perm_append_singleton _ _)
/-- things that are no more asked for -/
theorem In.forget (I : In K S F0 H0 F H M σ ds) (h : M'.Sublist M) : In K S F0 H0 F H M' σ ds := ⟨I.env, I.ff, I.fh, I.new, I.keep, I.there, fun e he => I.mem e (h.subset he), fun e he => I.own e (h.subset he), (h.map _).nodup I.nd⟩
/-- a thing that may change, changed -/
theorem In.setM {i : Nat} {p : Addr} {o : HO} {m m' : MO} (I : In K S F0 H0 F H M σ ds) (hi : M[i]? = some (p, m)) (h : OOk K F o m') : In K S F0 H0 F (upd H p o) (M.set i (p, m')) σ ds := by
  have hmem : (p, m) ∈ M := List.mem_of_getElem? hi
  obtain ⟨nf, u0, hu0, _⟩ := I.mem _ hmem
  have hlt : i < M.length := (List.getElem?_eq_some_iff.mp hi).1
  have keys : (M.set i (p, m')).map (·.1) = M.map (·.1) := by
    rw [List.map_set]
    refine List.ext_getElem? fun j => ?_
    by_cases hj : i = j
    · subst hj
      rw [List.getElem?_set_self (by simpa using hlt), List.getElem?_map, hi]
      rfl
    · rw [List.getElem?_set_ne hj]
  refine ⟨I.env, I.ff, fun b u e => ?_, I.new, fun b u e hs => ?_, fun b u e => ?_, fun e he => ?_, fun e he => ?_, by rw [keys]; exact I.nd⟩
  · rw [upd_ne (ne_of_none e nf)]; exact I.fh b u e
  · have nb : b ≠ p := by
      intro z
      subst z
      rcases I.own _ hmem with q | q
      · rw [show H0 b = none from q] at e; cases e
      · exact hs q
    rw [upd_ne nb]; exact I.keep b u e hs
  · by_cases nb : b = p
    · subst nb; exact ⟨o, upd_same⟩
    · rw [upd_ne nb]; exact I.there b u e
  · obtain ⟨j, hj, ej⟩ := List.mem_iff_getElem.mp he
    by_cases hij : i = j
    · subst hij
      rw [List.getElem_set_self] at ej
      subst ej
      exact ⟨nf, o, upd_same, h⟩
    · rw [List.getElem_set_ne hij] at ej
      have hj' : j < M.length := by simpa using hj
      have me : e ∈ M := ej ▸ List.getElem_mem hj'
      obtain ⟨h1, u, h2, h3⟩ := I.mem e me
      have ne : e.1 ≠ p := by
        intro z
        have a1 : (M.map (·.1))[i]? = some p := by rw [List.getElem?_map, hi]; rfl
        have a2 : (M.map (·.1))[j]? = some p := by
          rw [List.getElem?_map, List.getElem?_eq_getElem hj', ej, ← z]
          rfl
        exact hij (nd_ix I.nd a1 a2)
      exact ⟨h1, u, by rw [upd_ne ne]; exact h2, h3⟩
  · have k : e.1 ∈ (M.set i (p, m')).map (·.1) := List.mem_map.mpr ⟨e, he, rfl⟩
    rw [keys] at k
    obtain ⟨e2, he2, q⟩ := List.mem_map.mp k
    rw [← q]
    exact I.own e2 he2
/-- forgetting a thing that may change -/
theorem In.dropM (I : In K S F0 H0 F H M σ ds) (i : Nat) : In K S F0 H0 F H (M.eraseIdx i) σ ds :=
  ⟨I.env, I.ff, I.fh, I.new, I.keep, I.there, fun e he => I.mem e (List.mem_of_mem_eraseIdx he), fun e he => I.own e (List.mem_of_mem_eraseIdx he), I.nd.sublist ((List.eraseIdx_sublist M i).map _)⟩
/-- a thing of ours that won't change any more -/
theorem In.freezeL {i : Nat} {p : Addr} {m : MO} {u : HO} (od : Obj) (I : In K S F0 H0 F H M σ ds) (hi : M[i]? = some (p, m)) : In K S F0 H0 (upd F p (.frz od u)) (upd H p (.frz od u)) (M.eraseIdx i) σ ds := by
  have hmem : (p, m) ∈ M := List.mem_of_getElem? hi
  obtain ⟨nf, o, ho, hm⟩ := I.mem _ hmem
  have n0 : H0 p = none ∨ S p := I.own _ hmem
  have sF : Same F (upd F p (.frz od u)) := fun b v e => by rw [upd_ne (ne_of_none e nf)]; exact e
  refine ⟨I.env.mono sF, I.ff.trans sF, fun b v e => ?_, fun b v e f => ?_, fun b v e n => ?_, fun b v e => ?_, fun e he => ?_, fun e he => I.own e (List.mem_of_mem_eraseIdx he), I.nd.sublist ((List.eraseIdx_sublist M i).map _)⟩
  · by_cases hb : b = p
    · subst hb
      rw [upd_same] at e ⊢
      exact e
    · rw [upd_ne hb] at e ⊢
      exact I.fh b v e
  · by_cases hb : b = p
    · subst hb
      exact n0
    · rw [upd_ne hb] at e
      exact I.new b v e f
  · by_cases hb : b = p
    · subst hb
      rcases n0 with z | z
      · rw [z] at e; cases e
      · exact absurd z n
    · rw [upd_ne hb]
      exact I.keep b v e n
  · by_cases hb : b = p
    · subst hb
      exact ⟨_, upd_same⟩
    · rw [upd_ne hb]
      exact I.there b v e
  · have me := List.mem_of_mem_eraseIdx he
    obtain ⟨h1, v, h2, h3⟩ := I.mem e me
    obtain ⟨j, hj, ej⟩ := List.mem_eraseIdx_iff_getElem?.mp he
    have ne : e.1 ≠ p := by
      intro z
      have a1 : (M.map (·.1))[i]? = some p := by rw [List.getElem?_map, hi]; rfl
      have a2 : (M.map (·.1))[j]? = some p := by rw [List.getElem?_map, ej, ← z] <;> rfl
      exact hj (nd_ix I.nd a2 a1)
    exact ⟨by rw [upd_ne ne]; exact h1, v, by rw [upd_ne ne]; exact h2, h3.mono sF⟩
theorem In.freeze {i : Nat} {p : Addr} {m : MO} (I : In K S F0 H0 F H M σ ds) (hi : M[i]? = some (p, m)) :
    ∃ o, H p = some o ∧ OOk K F o m ∧ In K S F0 H0 (upd F p o) H (M.eraseIdx i) σ ds := by
  have hmem : (p, m) ∈ M := List.mem_of_getElem? hi
  obtain ⟨nf, o, ho, hm⟩ := I.mem _ hmem
  have n0 : H0 p = none ∨ S p := I.own _ hmem
  have sF : Same F (upd F p o) := fun b u e => by rw [upd_ne (ne_of_none e nf)]; exact e
  refine ⟨o, ho, hm, I.env.mono sF, I.ff.trans sF, fun b u e => ?_, fun b u e f => ?_, I.keep, I.there, fun e he => ?_, fun e he => I.own e (List.mem_of_mem_eraseIdx he), I.nd.sublist ((List.eraseIdx_sublist M i).map _)⟩
  · by_cases hb : b = p
    · subst hb
      rw [upd_same] at e
      cases e
      exact ho
    · rw [upd_ne hb] at e
      exact I.fh b u e
  · by_cases hb : b = p
    · subst hb
      exact n0
    · rw [upd_ne hb] at e
      exact I.new b u e f
  · have me := List.mem_of_mem_eraseIdx he
    obtain ⟨h1, u, h2, h3⟩ := I.mem e me
    obtain ⟨j, hj, ej⟩ := List.mem_eraseIdx_iff_getElem?.mp he
    refine ⟨?_, u, h2, h3.mono sF⟩
    have ne : e.1 ≠ p := by
      intro z
      have a1 : (M.map (·.1))[i]? = some p := by rw [List.getElem?_map, hi]; rfl
      have a2 : (M.map (·.1))[j]? = some p := by rw [List.getElem?_map, ej, ← z] <;> rfl
      exact hj (nd_ix I.nd a2 a1)
    rw [upd_ne ne]
    exact h1
end
end CS

/-! CsCalc: what expressions and statements do, told by data alone (HE, HT, HA, HS, HSs). -/
namespace CS
open PySem L2

/-! ### readings -/
def We (K : PySem.W.Frag) (W : WX) (te : TE) (ds : Slots) (M : Mem) (R : DV → Mem → Prop) (Xp : Value → Mem → Prop) : Prop :=
  ∀ (S : Addr → Prop) (F0 H0 F H : Hp) (σ : St), In K S F0 H0 F H M σ ds → ∀ Q : VK,
    (∀ v F' H' M' dv, Same F F' → In K S F0 H0 F' H' M' σ ds → VOk K F' v dv → R dv M' → Q v H') →
    (∀ cls F' H' M', Same F F' → In K S F0 H0 F' H' M' σ ds → Xp cls M' → W cls none σ H') → te σ H Q
def Wt (K : PySem.W.Frag) (W : WX) (tt : TT) (ds : Slots) (M : Mem) (R : Bool → Mem → Prop) (Xp : Value → Mem → Prop) : Prop :=
  ∀ (S : Addr → Prop) (F0 H0 F H : Hp) (σ : St), In K S F0 H0 F H M σ ds → ∀ Q : Bool → Hp → Prop,
    (∀ b F' H' M', Same F F' → In K S F0 H0 F' H' M' σ ds → R b M' → Q b H') →
    (∀ cls F' H' M', Same F F' → In K S F0 H0 F' H' M' σ ds → Xp cls M' → W cls none σ H') → tt σ H Q
def Wa (K : PySem.W.Frag) (W : WX) (ta : TA) (ds : Slots) (M : Mem) (R : List DV → Mem → Prop) (Xp : Value → Mem → Prop) : Prop :=
  ∀ (S : Addr → Prop) (F0 H0 F H : Hp) (σ : St), In K S F0 H0 F H M σ ds → ∀ Q : List V → Hp → Prop,
    (∀ vs F' H' M' dvs, Same F F' → In K S F0 H0 F' H' M' σ ds → VL K F' vs dvs → R dvs M' → Q vs H') →
    (∀ cls F' H' M', Same F F' → In K S F0 H0 F' H' M' σ ds → Xp cls M' → W cls none σ H') → ta σ H Q
/-- what is wanted behind a statement: going on, handing back, break, continue, an exception -/
structure Po where
  n : Slots → Mem → Prop
  r : DV → Mem → Prop
  b : Slots → Mem → Prop := fun _ _ => False
  c : Slots → Mem → Prop := fun _ _ => False
  x : Value → Slots → Mem → Prop := fun _ _ _ => False
def Ws (K : PySem.W.Frag) (W : WX) (t : TS) (ds : Slots) (M : Mem) (P : Po) : Prop :=
  ∀ (S : Addr → Prop) (F0 H0 F H : Hp) (σ : St) (D : Ends), In K S F0 H0 F H M σ ds →
    (∀ F' H' M' σ' ds', Same F F' → In K S F0 H0 F' H' M' σ' ds' → ds'.map (·.1) = ds.map (·.1) → P.n ds' M' → D.nx σ' H') →
    (∀ v F' H' M' σ' ds' dv, Same F F' → In K S F0 H0 F' H' M' σ' ds' → VOk K F' v dv → P.r dv M' → D.rt v H') →
    (∀ F' H' M' σ' ds', Same F F' → In K S F0 H0 F' H' M' σ' ds' → ds'.map (·.1) = ds.map (·.1) → P.b ds' M' → D.bk σ' H') →
    (∀ F' H' M' σ' ds', Same F F' → In K S F0 H0 F' H' M' σ' ds' → ds'.map (·.1) = ds.map (·.1) → P.c ds' M' → D.ct σ' H') →
    (∀ cls F' H' M' σ' ds', Same F F' → In K S F0 H0 F' H' M' σ' ds' → ds'.map (·.1) = ds.map (·.1) → P.x cls ds' M' → W cls none σ' H') → t D σ H

/-- the readings that ask just what is wanted -/
def tE (X : Cx) (e : Expr) : TE := fun σ H Q => ∀ pins s, Inv X pins σ H s → wpAny (model X.prog X.w) X.A (eval e X.env) (EP X pins σ Q) X.xe s
def tT (X : Cx) (e : Expr) : TT := fun σ H Q => ∀ pins s, Inv X pins σ H s → wpAny (model X.prog X.w) X.A (isTrue e X.env (eval e X.env)) (TP X pins σ Q) X.xe s
def tA (X : Cx) (es : List Expr) : TA := fun σ H Q => ∀ pos pins s, Inv X pins σ H s → wpAny (model X.prog X.w) X.A (spliced (backTo pos (starEach es X.env))) (AP X pins σ Q) X.xe s
def tS (X : Cx) (st : Stmt) : TS := fun D σ H => ∀ pins s, Inv X pins σ H s → wpAny (model X.prog X.w) X.A (exec st X.env) (SP X pins D) X.xe s
def tSs (X : Cx) (st : List Stmt) : TS := fun D σ H => ∀ pins s, Inv X pins σ H s → wpAny (model X.prog X.w) X.A (execs st X.env) (SP X pins D) X.xe s
theorem pe_t (X : Cx) (e : Expr) : PE X e (tE X e) := ⟨fun pins s σ H Q I h => h pins s I⟩
theorem pt_t (X : Cx) (e : Expr) : PT X e (tT X e) := ⟨fun pins s σ H Q I h => h pins s I⟩
theorem pa_t (X : Cx) (es : List Expr) : PA X es (tA X es) := ⟨fun pos pins s σ H Q I h => h pos pins s I⟩
theorem ps_t (X : Cx) (st : Stmt) : PS X st (tS X st) := ⟨fun pins s σ H D I h => h pins s I⟩
theorem pss_t (X : Cx) (st : List Stmt) : PSs X st (tSs X st) := ⟨fun pins s σ H D I h => h pins s I⟩

/-! ### the judgements -/
def HE (X : Cx) (W : WX) (e : Expr) (ds : Slots) (M : Mem) (R : DV → Mem → Prop) (Xp : Value → Mem → Prop) : Prop := X.N = ds.map (·.1) → We X.K W (tE X e) ds M R Xp
def HT (X : Cx) (W : WX) (e : Expr) (ds : Slots) (M : Mem) (R : Bool → Mem → Prop) (Xp : Value → Mem → Prop) : Prop := X.N = ds.map (·.1) → Wt X.K W (tT X e) ds M R Xp
def HA (X : Cx) (W : WX) (es : List Expr) (ds : Slots) (M : Mem) (R : List DV → Mem → Prop) (Xp : Value → Mem → Prop) : Prop := X.N = ds.map (·.1) → Wa X.K W (tA X es) ds M R Xp
def HS (X : Cx) (W : WX) (st : Stmt) (ds : Slots) (M : Mem) (P : Po) : Prop := X.N = ds.map (·.1) → Ws X.K W (tS X st) ds M P
def HSs (X : Cx) (W : WX) (st : List Stmt) (ds : Slots) (M : Mem) (P : Po) : Prop := X.N = ds.map (·.1) → Ws X.K W (tSs X st) ds M P

section
variable {X : Cx} {W : WX} {e a b : Expr} {es : List Expr} {ds : Slots} {M : Mem} {R : DV → Mem → Prop} {Xp : Value → Mem → Prop} {pos : Pos} {P : Po}
theorem he_of {t : TE} (h : PE X e t) (w : X.N = ds.map (·.1) → We X.K W t ds M R Xp) : HE X W e ds M R Xp := fun n S F0 H0 F H σ I Q q x pins s J => h.run pins s σ H Q J (w n S F0 H0 F H σ I Q q x)
theorem ht_of {t : TT} {R : Bool → Mem → Prop} (h : PT X e t) (w : X.N = ds.map (·.1) → Wt X.K W t ds M R Xp) : HT X W e ds M R Xp := fun n S F0 H0 F H σ I Q q x pins s J => h.run pins s σ H Q J (w n S F0 H0 F H σ I Q q x)
theorem ha_of {t : TA} {R : List DV → Mem → Prop} (h : PA X es t) (w : X.N = ds.map (·.1) → Wa X.K W t ds M R Xp) : HA X W es ds M R Xp := fun n S F0 H0 F H σ I Q q x pos pins s J => h.run pos pins s σ H Q J (w n S F0 H0 F H σ I Q q x)
theorem hs_of {st : Stmt} {t : TS} (h : PS X st t) (w : X.N = ds.map (·.1) → Ws X.K W t ds M P) : HS X W st ds M P := fun n S F0 H0 F H σ D I a b c d e pins s J => h.run pins s σ H D J (w n S F0 H0 F H σ D I a b c d e)
theorem hss_of {st : List Stmt} {t : TS} (h : PSs X st t) (w : X.N = ds.map (·.1) → Ws X.K W t ds M P) : HSs X W st ds M P := fun n S F0 H0 F H σ D I a b c d e pins s J => h.run pins s σ H D J (w n S F0 H0 F H σ D I a b c d e)

theorem VOk.dat {K : PySem.W.Frag} {F : Hp} {v : V} {d : Dat} (h : Rp K F v d) : VOk K F v (.d d) := h

/-! ### arguments -/
theorem ha_nil {R : List DV → Mem → Prop} (h : R [] M) : HA X W [] ds M R Xp := ha_of pa_nil fun _ S F0 H0 F H σ I Q q x => q _ F H M [] (.refl _) I .nil h
theorem ha_cons {R : List DV → Mem → Prop} (h : HE X W e ds M (fun d M1 => HA X W es ds M1 (fun dvs M2 => R (d :: dvs) M2) Xp) Xp) (hs : starEach (e :: es) X.env = (false, eval e X.env) :: starEach es X.env := by with_unfolding_all rfl) :
    HA X W (e :: es) ds M R Xp := ha_of (pa_cons (pe_t X e) (pa_t X es) hs) fun n S F0 H0 F H σ I Q q x =>
  h n S F0 H0 F H σ I _ (fun v F1 H1 M1 dv s1 I1 o1 g1 => g1 n S F0 H0 F1 H1 σ I1 _ (fun vs F2 H2 M2 dvs s2 I2 o2 g2 => q (v :: vs) F2 H2 M2 (dv :: dvs) (s1.trans s2) I2 (.cons (o1.mono s2) o2) g2)
    (fun cls F2 H2 M2 s2 I2 g2 => x cls F2 H2 M2 (s1.trans s2) I2 g2)) x

/-! ### constants, names -/
theorem he_val {v : V} {dv : DV} (hp : PE X e (tC v)) (ho : ∀ F, VOk X.K F v dv) (h : R dv M) : HE X W e ds M R Xp := he_of hp fun _ S F0 H0 F H σ I Q q x => q v F H M dv (.refl _) I (ho F) h
theorem he_int {i : Int} {j : Nat} (h : R (.d (.int i)) M) : HE X W (.Constant (.int i) j pos) ds M R Xp := he_val pe_int (dv := .d (.int i)) (fun F => VOk.dat (.int i)) h
theorem he_str {i : Str} {j : Nat} (h : R (.d (.str i)) M) : HE X W (.Constant (.str i) j pos) ds M R Xp := he_val pe_str (dv := .d (.str i)) (fun F => VOk.dat (.str i)) h
theorem he_bool {i : Bool} {j : Nat} (h : R (.d (.bl i)) M) : HE X W (.Constant (.bool i) j pos) ds M R Xp := he_val pe_bl (dv := .d (.bl i)) (fun F => VOk.dat (.bl i)) h
theorem he_none {j : Nat} (h : R (.d .non) M) : HE X W (.Constant .none j pos) ds M R Xp := he_val pe_non (dv := .d .non) (fun F => VOk.dat .non) h
theorem we_var {K : PySem.W.Frag} {W : WX} {x : Str} {dv : DV} {i : Nat} (l : Lk ds x dv i) (hd : dv ≠ .no) (h : R dv M) : We K W (tVar i) ds M R Xp := fun S F0 H0 F H σ I Q q x => by
  obtain ⟨o, e, s⟩ := l.get I.env
  cases dv with
  | no => exact absurd rfl hd
  | d y =>
    obtain ⟨v, rfl, hv⟩ := s
    exact ⟨v, e, q v F H M _ (.refl _) I hv h⟩
  | m y =>
    obtain ⟨v, rfl, hv⟩ := s
    exact ⟨v, e, q v F H M _ (.refl _) I hv h⟩
/-- what is known of the names of a context: V the names that may be read, G global ones, B built-in ones -/
structure Kx (X : Cx) (V L G B : List Str) : Prop where
  nd : X.N.Nodup
  vis : ∀ x ∈ V, Vis X.env.scope x ∧ (x == ("__debug__" : Str)) = false ∧ (x == ("__classdict__" : Str)) = false
  gl : ∀ x ∈ G, Gl X x ∧ (x == ("__debug__" : Str)) = false
  bl : ∀ x ∈ B, Gl X x ∧ X.mg x = none ∧ x ≠ "__name__" ∧ (x == ("__debug__" : Str)) = false
  st : ∀ x ∈ L, Loc X.env.scope x ∧ (X.fn x = true ∨ X.env.scope.names.lookup x = some .local)
inductive Mm : List Str → Str → Prop
  | here {x : Str} {r : List Str} : Mm (x :: r) x
  | there {x y : Str} {r : List Str} : Mm r x → Mm (y :: r) x
theorem Mm.mem : ∀ {l : List Str} {x : Str}, Mm l x → x ∈ l
  | _, _, .here => List.mem_cons_self
  | _, _, .there h => List.mem_cons_of_mem _ h.mem
theorem he_name {x : Str} {dv : DV} {i : Nat} {V L G B : List Str} (k : Kx X V L G B) (l : Lk ds x dv i) (m : Mm V x) (hd : dv ≠ .no) (h : R dv M) : HE X W (.Name x pos) ds M R Xp := fun n =>
  he_of (pe_var (i := i) (by rw [n]; exact l.name) (k.vis x m.mem).1 (k.vis x m.mem).2.1 (k.vis x m.mem).2.2) (fun _ => we_var l hd h) n
theorem he_glob {x : Str} {v : V} {dv : DV} {u : Value} {V' L G B : List Str} (k : Kx X V' L G B) (m : Mm G x) (hm : X.mg x = some u) (r : RelV v u) (ho : ∀ F, VOk X.K F v dv) (h : R dv M) : HE X W (.Name x pos) ds M R Xp :=
  he_val (pe_glob (k.gl x m.mem).1 hm r (k.gl x m.mem).2) ho h

/-! ### operators -/
def OD (K : PySem.W.Frag) (r : R2) (Rd : DV → DV → Mem → (DV → Mem → Prop) → Prop) : Prop :=
  ∀ (S : Addr → Prop) (F0 H0 F H : Hp) (M : Mem) (σ : St) (ds : Slots) (a b : DV) (v w : V) (R : DV → Mem → Prop) (Q : VK), In K S F0 H0 F H M σ ds → VOk K F v a → VOk K F w b → Rd a b M R →
    (∀ u F' H' M' dv, Same F F' → In K S F0 H0 F' H' M' σ ds → VOk K F' u dv → R dv M' → Q u H') → r v w H Q
theorem we_op {K : PySem.W.Frag} {W : WX} {r : R2} {Rd : DV → DV → Mem → (DV → Mem → Prop) → Prop} {ta tb : TE} (od : OD K r Rd) (h : We K W ta ds M (fun x M1 => We K W tb ds M1 (fun y M2 => Rd x y M2 R) Xp) Xp) :
    We K W (tOp r ta tb) ds M R Xp := fun S F0 H0 F H σ I Q q x =>
  h S F0 H0 F H σ I _ (fun v F1 H1 M1 dv s1 I1 o1 g1 => g1 S F0 H0 F1 H1 σ I1 _ (fun w F2 H2 M2 dw s2 I2 o2 g2 =>
    od S F0 H0 F2 H2 M2 σ ds dv dw v w R Q I2 (o1.mono s2) o2 g2 fun u F3 H3 M3 du s3 I3 o3 g3 => q u F3 H3 M3 du ((s1.trans s2).trans s3) I3 o3 g3)
    (fun cls F2 H2 M2 s2 I2 g2 => x cls F2 H2 M2 (s1.trans s2) I2 g2)) x
theorem we_imp {K : PySem.W.Frag} {W : WX} {te : TE} {R R' : DV → Mem → Prop} (h : We K W te ds M R Xp) (i : ∀ dv M, R dv M → R' dv M) : We K W te ds M R' Xp := fun S F0 H0 F H σ I Q q x =>
  h S F0 H0 F H σ I Q (fun v F1 H1 M1 dv s1 I1 o1 g1 => q v F1 H1 M1 dv s1 I1 o1 (i _ _ g1)) x
theorem he_imp {R R' : DV → Mem → Prop} (h : HE X W e ds M R Xp) (i : ∀ dv M, R dv M → R' dv M) : HE X W e ds M R' Xp := fun n => we_imp (h n) i
/-- two operands in a row: the inner judgement as a reading -/
theorem inner {e : Expr} {ds : Slots} {M : Mem} {R : DV → Mem → Prop} (n : X.N = ds.map (·.1)) (h : HE X W e ds M R Xp) : We X.K W (tE X e) ds M R Xp := h n
theorem he_bin {op : Operator} {r : R2} {Rd : DV → DV → Mem → (DV → Mem → Prop) → Prop} (ho : OpR X (binaryOp op) r) (od : OD X.K r Rd) (h : HE X W a ds M (fun x M1 => HE X W b ds M1 (fun y M2 => Rd x y M2 R) Xp) Xp) :
    HE X W (.BinOp a op b pos) ds M R Xp := he_of (pe_op ho (pe_t X a) (pe_t X b)) fun n => we_op od (we_imp (h n) fun _ _ g => g n)
theorem he_cmp {op : CmpOp} {r : R2} {Rd : DV → DV → Mem → (DV → Mem → Prop) → Prop} (ho : OpR X (compareOp op) r) (od : OD X.K r Rd) (h : HE X W a ds M (fun x M1 => HE X W b ds M1 (fun y M2 => Rd x y M2 R) Xp) Xp)
    (hm : behindInMarks op b = false := by with_unfolding_all rfl) : HE X W (.Compare a [op] [b] pos) ds M R Xp := he_of (pe_cmpR ho (pe_t X a) (pe_t X b) hm) fun n => we_op od (we_imp (h n) fun _ _ g => g n)
theorem OD.or {K : PySem.W.Frag} {r r' : R2} {Rd Rd' : DV → DV → Mem → (DV → Mem → Prop) → Prop} (h : OD K r Rd) (h' : OD K r' Rd') : OD K (fun x y H Q => r x y H Q ∨ r' x y H Q) (fun a b M R => Rd a b M R ∨ Rd' a b M R) :=
  fun S F0 H0 F H M σ ds a b v w R Q I oa ob g q => g.elim (fun g => .inl (h S F0 H0 F H M σ ds a b v w R Q I oa ob g q)) fun g => .inr (h' S F0 H0 F H M σ ds a b v w R Q I oa ob g q)
theorem OpR.or {f : Value → Value → Sem Value} {r r' : R2} (h : OpR X f r) (h' : OpR X f r') : OpR X f (fun x y H Q => r x y H Q ∨ r' x y H Q) := fun pins s σ H x y v u Q I rx ry q =>
  q.elim (fun q => h pins s σ H x y v u Q I rx ry q) fun q => h' pins s σ H x y v u Q I rx ry q
/-- two ints -/
def dI (C : Int → Int → Prop) (g : Int → Int → Dat) : DV → DV → Mem → (DV → Mem → Prop) → Prop := fun a b M R => ∃ i j, a = .d (.int i) ∧ b = .d (.int j) ∧ C i j ∧ R (.d (g i j)) M
def dI0 (g : Int → Int → Dat) : DV → DV → Mem → (DV → Mem → Prop) → Prop := fun a b M R => ∃ i j, a = .d (.int i) ∧ b = .d (.int j) ∧ R (.d (g i j)) M
theorem od_I {K : PySem.W.Frag} {C : Int → Int → Prop} {f : Int → Int → V} {g : Int → Int → Dat} (hg : ∀ F i j, Rp K F (f i j) (g i j)) : OD K (rI C f) (dI C g) := by
  rintro S F0 H0 F H M σ ds a b v w R Q I oa ob ⟨i, j, rfl, rfl, hc, h⟩ q
  cases oa
  cases ob
  exact ⟨i, j, rfl, rfl, hc, q _ F H M _ (.refl _) I (VOk.dat (hg F i j)) h⟩
theorem od_I0 {K : PySem.W.Frag} {f : Int → Int → V} {g : Int → Int → Dat} (hg : ∀ F i j, Rp K F (f i j) (g i j)) : OD K (rI0 f) (dI0 g) := by
  rintro S F0 H0 F H M σ ds a b v w R Q I oa ob ⟨i, j, rfl, rfl, h⟩ q
  cases oa
  cases ob
  exact ⟨i, j, rfl, rfl, q _ F H M _ (.refl _) I (VOk.dat (hg F i j)) h⟩
theorem he_sub (h : HE X W a ds M (fun x M1 => HE X W b ds M1 (fun y M2 => dI0 (fun i j => .int (i - j)) x y M2 R) Xp) Xp) : HE X W (.BinOp a .Sub b pos) ds M R Xp := he_bin op_sub (od_I0 fun F i j => .int _) h
theorem he_mul (h : HE X W a ds M (fun x M1 => HE X W b ds M1 (fun y M2 => dI CMul (fun i j => .int (i * j)) x y M2 R) Xp) Xp) : HE X W (.BinOp a .Mult b pos) ds M R Xp := he_bin op_mul (od_I fun F i j => .int _) h
theorem he_mod (h : HE X W a ds M (fun x M1 => HE X W b ds M1 (fun y M2 => dI (fun _ j => 0 < j) (fun i j => .int (i % j)) x y M2 R) Xp) Xp) : HE X W (.BinOp a .Mod b pos) ds M R Xp := he_bin op_mod (od_I fun F i j => .int _) h
theorem he_fdiv (h : HE X W a ds M (fun x M1 => HE X W b ds M1 (fun y M2 => dI CDiv (fun i j => .int (i / j)) x y M2 R) Xp) Xp) : HE X W (.BinOp a .FloorDiv b pos) ds M R Xp := he_bin op_fdiv (od_I fun F i j => .int _) h
theorem he_pow (h : HE X W a ds M (fun x M1 => HE X W b ds M1 (fun y M2 => dI CPow (fun i j => .int (i ^ j.toNat)) x y M2 R) Xp) Xp) : HE X W (.BinOp a .Pow b pos) ds M R Xp := he_bin op_pow (od_I fun F i j => .int _) h
theorem he_lt (h : HE X W a ds M (fun x M1 => HE X W b ds M1 (fun y M2 => dI0 (fun i j => .bl (decide (i < j))) x y M2 R) Xp) Xp) : HE X W (.Compare a [.Lt] [b] pos) ds M R Xp := he_cmp op_lt (od_I0 fun F i j => .bl _) h (nomark _)
theorem he_le (h : HE X W a ds M (fun x M1 => HE X W b ds M1 (fun y M2 => dI0 (fun i j => .bl (decide (i ≤ j))) x y M2 R) Xp) Xp) : HE X W (.Compare a [.LtE] [b] pos) ds M R Xp := he_cmp op_le (od_I0 fun F i j => .bl _) h (nomark _)
theorem he_gt (h : HE X W a ds M (fun x M1 => HE X W b ds M1 (fun y M2 => dI0 (fun i j => .bl (decide (j < i))) x y M2 R) Xp) Xp) : HE X W (.Compare a [.Gt] [b] pos) ds M R Xp := he_cmp op_gt (od_I0 fun F i j => .bl _) h (nomark _)
theorem he_ge (h : HE X W a ds M (fun x M1 => HE X W b ds M1 (fun y M2 => dI0 (fun i j => .bl (decide (j ≤ i))) x y M2 R) Xp) Xp) : HE X W (.Compare a [.GtE] [b] pos) ds M R Xp := he_cmp op_ge (od_I0 fun F i j => .bl _) h (nomark _)
theorem he_neg (h : HE X W a ds M (fun x M1 => ∃ i, x = .d (.int i) ∧ R (.d (.int (-i))) M1) Xp) : HE X W (.UnaryOp .USub a pos) ds M R Xp := he_of (pe_un un_neg (pe_t X a)) fun n S F0 H0 F H σ I Q q x =>
  h n S F0 H0 F H σ I _ (fun v F1 H1 M1 dv s1 I1 o1 g1 => by
    obtain ⟨i, rfl, g⟩ := g1
    cases o1
    exact ⟨i, rfl, q _ F1 H1 M1 _ s1 I1 (VOk.dat (.int _)) g⟩) x

/-! ### equality: scalars -/
def datS : Dat → Option V
  | .non => some .non
  | .bl b => some (.bl b)
  | .int i => some (.int i)
  | .str s => some (.str s)
  | _ => none
theorem datS_rp {K : PySem.W.Frag} {F : Hp} {v w : V} {d : Dat} (e : datS d = some w) (h : Rp K F v d) : v = w := by
  cases h <;> first | exact Option.some.inj e | cases e
def dEq (neg : Bool) : DV → DV → Mem → (DV → Mem → Prop) → Prop := fun a b M R => ∃ x y v w, a = .d x ∧ b = .d y ∧ datS x = some v ∧ datS y = some w ∧ scal v w = true ∧ R (.d (.bl (if neg then !decide (v = w) else decide (v = w)))) M
theorem od_eq {K : PySem.W.Frag} : OD K rEq (dEq false) := by
  rintro S F0 H0 F H M σ ds a b v w R Q I oa ob ⟨x, y, v', w', rfl, rfl, h1, h2, hs, h⟩ q
  obtain rfl := datS_rp h1 oa
  obtain rfl := datS_rp h2 ob
  exact ⟨hs, q _ F H M _ (.refl _) I (VOk.dat (.bl _)) h⟩
theorem od_ne {K : PySem.W.Frag} : OD K rNe (dEq true) := by
  rintro S F0 H0 F H M σ ds a b v w R Q I oa ob ⟨x, y, v', w', rfl, rfl, h1, h2, hs, h⟩ q
  obtain rfl := datS_rp h1 oa
  obtain rfl := datS_rp h2 ob
  exact ⟨hs, q _ F H M _ (.refl _) I (VOk.dat (.bl _)) h⟩
end
end CS

/-! CsStm: tests, blocks, statements, calls. -/
namespace CS
open PySem L2

section
variable {X : Cx} {W : WX} {e a b c : Expr} {es : List Expr} {ds : Slots} {M : Mem} {R : DV → Mem → Prop} {Xp : Value → Mem → Prop} {pos : Pos} {pn : Slots → Mem → Prop} {pr : DV → Mem → Prop} {pb pc : Slots → Mem → Prop} {px : Value → Slots → Mem → Prop}

/-! ### tests -/
/-- a test whose value is a bool -/
theorem wt_test {K : PySem.W.Frag} {t : TE} {R : Bool → Mem → Prop} (h : We K W t ds M (fun z M1 => ∃ k, z = .d (.bl k) ∧ R k M1) Xp) : Wt K W (tTest t) ds M R Xp := fun S F0 H0 F H σ I Q q x =>
  h S F0 H0 F H σ I _ (fun v F1 H1 M1 dv s1 I1 o1 g1 => by
    obtain ⟨k, rfl, g⟩ := g1
    cases o1
    exact ⟨k, rfl, q k F1 H1 M1 s1 I1 g⟩) x
theorem wt_B {K : PySem.W.Frag} {t : TE} {R : Bool → Mem → Prop} (h : We K W t ds M (fun z M1 => ∃ k, z = .d (.bl k) ∧ R k M1) Xp) : Wt K W (tB t) ds M R Xp := fun S F0 H0 F H σ I Q q x =>
  h S F0 H0 F H σ I _ (fun v F1 H1 M1 dv s1 I1 o1 g1 => by
    obtain ⟨k, rfl, g⟩ := g1
    cases o1
    exact ⟨k, rfl, q k F1 H1 M1 s1 I1 g⟩) x
theorem ht_cmp {op : CmpOp} {r : R2} {Rd : DV → DV → Mem → (DV → Mem → Prop) → Prop} {R : Bool → Mem → Prop} (ho : OpR X (compareOp op) r) (od : OD X.K r Rd)
    (h : HE X W a ds M (fun x M1 => HE X W b ds M1 (fun y M2 => Rd x y M2 (fun z M3 => ∃ k, z = .d (.bl k) ∧ R k M3)) Xp) Xp) (hm : behindInMarks op b = false := by with_unfolding_all rfl) : HT X W (.Compare a [op] [b] pos) ds M R Xp :=
  ht_of (pt_cmpR ho (pe_t X a) (pe_t X b) hm) fun n => wt_test (we_op od (we_imp (h n) fun _ _ g => g n))
/-- two ints compared, as a test -/
def tI0 (g : Int → Int → Bool) : DV → DV → Mem → (Bool → Mem → Prop) → Prop := fun a b M R => ∃ i j, a = .d (.int i) ∧ b = .d (.int j) ∧ R (g i j) M
theorem ht_cmpI {op : CmpOp} {g : Int → Int → Bool} {R : Bool → Mem → Prop} (ho : OpR X (compareOp op) (rI0 fun i j => .bl (g i j)))
    (h : HE X W a ds M (fun x M1 => HE X W b ds M1 (fun y M2 => tI0 g x y M2 R) Xp) Xp) (hm : behindInMarks op b = false) : HT X W (.Compare a [op] [b] pos) ds M R Xp :=
  ht_cmp ho (od_I0 (g := fun i j => .bl (g i j)) fun F i j => .bl _) (he_imp h fun _ _ q => he_imp q fun _ _ ⟨i, j, e1, e2, q⟩ => ⟨i, j, e1, e2, _, rfl, q⟩) hm
theorem ht_lt {R : Bool → Mem → Prop} (h : HE X W a ds M (fun x M1 => HE X W b ds M1 (fun y M2 => tI0 (fun i j => decide (i < j)) x y M2 R) Xp) Xp) : HT X W (.Compare a [.Lt] [b] pos) ds M R Xp := ht_cmpI op_lt h (nomark _)
theorem ht_le {R : Bool → Mem → Prop} (h : HE X W a ds M (fun x M1 => HE X W b ds M1 (fun y M2 => tI0 (fun i j => decide (i ≤ j)) x y M2 R) Xp) Xp) : HT X W (.Compare a [.LtE] [b] pos) ds M R Xp := ht_cmpI op_le h (nomark _)
theorem ht_gt {R : Bool → Mem → Prop} (h : HE X W a ds M (fun x M1 => HE X W b ds M1 (fun y M2 => tI0 (fun i j => decide (j < i)) x y M2 R) Xp) Xp) : HT X W (.Compare a [.Gt] [b] pos) ds M R Xp := ht_cmpI op_gt h (nomark _)
theorem ht_ge {R : Bool → Mem → Prop} (h : HE X W a ds M (fun x M1 => HE X W b ds M1 (fun y M2 => tI0 (fun i j => decide (j ≤ i)) x y M2 R) Xp) Xp) : HT X W (.Compare a [.GtE] [b] pos) ds M R Xp := ht_cmpI op_ge h (nomark _)
/-- scalars compared: what == says -/
inductive SEq : DV → DV → Bool → Prop
  | int (i j : Int) : SEq (.d (.int i)) (.d (.int j)) (decide (i = j))
  | str (s t : Str) : SEq (.d (.str s)) (.d (.str t)) (decide (s = t))
  | bl (s t : Bool) : SEq (.d (.bl s)) (.d (.bl t)) (decide (s = t))
  | is (i : Int) (t : Str) : SEq (.d (.int i)) (.d (.str t)) false
  | si (t : Str) (i : Int) : SEq (.d (.str t)) (.d (.int i)) false
theorem SEq.no {a b : DV} {k : Bool} (h : SEq a b k) (M : Mem) (neg : Bool) {R : DV → Mem → Prop} (g : R (.d (.bl (if neg then !k else k))) M) : dEq neg a b M R := by
  cases h with
  | int i j =>
    refine ⟨_, _, _, _, rfl, rfl, rfl, rfl, rfl, ?_⟩
    rw [show decide (V.int i = V.int j) = decide (i = j) from by simp]
    exact g
  | str i j =>
    refine ⟨_, _, _, _, rfl, rfl, rfl, rfl, rfl, ?_⟩
    rw [show decide (V.str i = V.str j) = decide (i = j) from by simp]
    exact g
  | bl i j =>
    refine ⟨_, _, _, _, rfl, rfl, rfl, rfl, rfl, ?_⟩
    rw [show decide (V.bl i = V.bl j) = decide (i = j) from by simp]
    exact g
  | is i t =>
    refine ⟨_, _, _, _, rfl, rfl, rfl, rfl, rfl, ?_⟩
    rw [show decide (V.int i = V.str t) = false from by simp]
    exact g
  | si t i =>
    refine ⟨_, _, _, _, rfl, rfl, rfl, rfl, rfl, ?_⟩
    rw [show decide (V.str t = V.int i) = false from by simp]
    exact g
theorem ht_eq {R : Bool → Mem → Prop} (h : HE X W a ds M (fun x M1 => HE X W b ds M1 (fun y M2 => ∃ k, SEq x y k ∧ R k M2) Xp) Xp) : HT X W (.Compare a [.Eq] [b] pos) ds M R Xp :=
  ht_cmp op_eq od_eq (he_imp h fun _ _ q => he_imp q fun _ _ ⟨k, s, q⟩ => s.no _ false ⟨_, rfl, q⟩) (nomark _)
theorem ht_ne {R : Bool → Mem → Prop} (h : HE X W a ds M (fun x M1 => HE X W b ds M1 (fun y M2 => ∃ k, SEq x y k ∧ R (!k) M2) Xp) Xp) : HT X W (.Compare a [.NotEq] [b] pos) ds M R Xp :=
  ht_cmp op_ne od_ne (he_imp h fun _ _ q => he_imp q fun _ _ ⟨k, s, q⟩ => s.no _ true ⟨_, rfl, q⟩) (nomark _)
theorem he_eq (h : HE X W a ds M (fun x M1 => HE X W b ds M1 (fun y M2 => ∃ k, SEq x y k ∧ R (.d (.bl k)) M2) Xp) Xp) : HE X W (.Compare a [.Eq] [b] pos) ds M R Xp :=
  he_cmp op_eq od_eq (he_imp h fun _ _ q => he_imp q fun _ _ ⟨k, s, q⟩ => s.no _ false q) (nomark _)
theorem he_ne (h : HE X W a ds M (fun x M1 => HE X W b ds M1 (fun y M2 => ∃ k, SEq x y k ∧ R (.d (.bl (!k))) M2) Xp) Xp) : HE X W (.Compare a [.NotEq] [b] pos) ds M R Xp :=
  he_cmp op_ne od_ne (he_imp h fun _ _ q => he_imp q fun _ _ ⟨k, s, q⟩ => s.no _ true q) (nomark _)
/-- is None -/
theorem he_isN {j : Nat} {p2 : Pos} (h : HE X W a ds M (fun x M1 => ∃ d, x = .d d ∧ R (.d (.bl (match d with | .non => true | _ => false))) M1) Xp) : HE X W (.Compare a [.Is] [.Constant .none j p2] pos) ds M R Xp :=
  he_of (pe_cmp (pc_isN (pe_t X a))) fun n S F0 H0 F H σ I Q q x => h n S F0 H0 F H σ I _ (fun v F1 H1 M1 dv s1 I1 o1 g1 => by
    obtain ⟨d, rfl, g⟩ := g1
    refine q _ F1 H1 M1 _ s1 I1 (VOk.dat (.bl _)) ?_
    cases o1 <;> exact g) x
theorem ht_val {R : Bool → Mem → Prop} (h : HE X W e ds M (fun z M1 => ∃ k, z = .d (.bl k) ∧ R k M1) Xp) (he : ∀ whole, isTrue e X.env whole = (do let v ← whole; standAt e.pos; holding [v] (truthy v)) := by intro _; with_unfolding_all rfl) : HT X W e ds M R Xp :=
  ht_of (pt_val (pe_t X e) he) fun n => wt_B (h n)
theorem ht_not {R : Bool → Mem → Prop} (h : HT X W a ds M (fun k M1 => R (!k) M1) Xp) : HT X W (.UnaryOp .Not a pos) ds M R Xp := ht_of (pt_not (pt_t X a)) fun n S F0 H0 F H σ I Q q x =>
  h n S F0 H0 F H σ I _ (fun k F1 H1 M1 s1 I1 g1 => q _ F1 H1 M1 s1 I1 g1) x
def tW (X : Cx) (e : Expr) : TT := fun σ H Q => ∀ whole pins s, Inv X pins σ H s → wpAny (model X.prog X.w) X.A (isTrue e X.env whole) (TP X pins σ Q) X.xe s
theorem pw_t (X : Cx) (e : Expr) : PW X e (tW X e) := ⟨fun whole pins s σ H Q I h => h whole pins s I⟩
/-- a chain of and, or, as a test -/
def HW (X : Cx) (W : WX) (e : Expr) (ds : Slots) (M : Mem) (R : Bool → Mem → Prop) (Xp : Value → Mem → Prop) : Prop := X.N = ds.map (·.1) → Wt X.K W (tW X e) ds M R Xp
theorem hw_of {t : TT} {R : Bool → Mem → Prop} (h : PW X e t) (w : X.N = ds.map (·.1) → Wt X.K W t ds M R Xp) : HW X W e ds M R Xp := fun n S F0 H0 F H σ I Q q x whole pins s J => h.run whole pins s σ H Q J (w n S F0 H0 F H σ I Q q x)
theorem ht_w {op : BoolOp} {R : Bool → Mem → Prop} (h : HW X W (.BoolOp op es pos) ds M R Xp) : HT X W (.BoolOp op es pos) ds M R Xp := ht_of (pw_t X _).pt h
theorem wt_imp {K : PySem.W.Frag} {t : TT} {R R' : Bool → Mem → Prop} (h : Wt K W t ds M R Xp) (i : ∀ dv M, R dv M → R' dv M) : Wt K W t ds M R' Xp := fun S F0 H0 F H σ I Q q x =>
  h S F0 H0 F H σ I Q (fun k F1 H1 M1 s1 I1 g1 => q k F1 H1 M1 s1 I1 (i _ _ g1)) x
theorem hw_and1 {R : Bool → Mem → Prop} (h : HT X W a ds M R Xp) : HW X W (.BoolOp .And [a] pos) ds M R Xp := hw_of (pw_and1 (pt_t X a)) h
theorem hw_or1 {R : Bool → Mem → Prop} (h : HT X W a ds M R Xp) : HW X W (.BoolOp .Or [a] pos) ds M R Xp := hw_of (pw_or1 (pt_t X a)) h
theorem hw_and {R : Bool → Mem → Prop} (h : HT X W a ds M (fun k M1 => if k = true then HW X W (.BoolOp .And (b :: es) pos) ds M1 R Xp else R false M1) Xp) : HW X W (.BoolOp .And (a :: b :: es) pos) ds M R Xp :=
  hw_of (pw_and (pt_t X a) (pw_t X _)) fun n S F0 H0 F H σ I Q q x => h n S F0 H0 F H σ I _ (fun k F1 H1 M1 s1 I1 g1 => by
    cases k with
    | true =>
      rw [if_pos rfl] at g1 ⊢
      exact g1 n S F0 H0 F1 H1 σ I1 Q (fun k2 F2 H2 M2 s2 I2 g2 => q k2 F2 H2 M2 (s1.trans s2) I2 g2) fun cls F2 H2 M2 s2 I2 g2 => x cls F2 H2 M2 (s1.trans s2) I2 g2
    | false =>
      rw [if_neg Bool.false_ne_true] at g1 ⊢
      exact q false F1 H1 M1 s1 I1 g1) x
theorem hw_or {R : Bool → Mem → Prop} (h : HT X W a ds M (fun k M1 => if k = true then R true M1 else HW X W (.BoolOp .Or (b :: es) pos) ds M1 R Xp) Xp) : HW X W (.BoolOp .Or (a :: b :: es) pos) ds M R Xp :=
  hw_of (pw_or (pt_t X a) (pw_t X _)) fun n S F0 H0 F H σ I Q q x => h n S F0 H0 F H σ I _ (fun k F1 H1 M1 s1 I1 g1 => by
    cases k with
    | false =>
      rw [if_neg Bool.false_ne_true] at g1 ⊢
      exact g1 n S F0 H0 F1 H1 σ I1 Q (fun k2 F2 H2 M2 s2 I2 g2 => q k2 F2 H2 M2 (s1.trans s2) I2 g2) fun cls F2 H2 M2 s2 I2 g2 => x cls F2 H2 M2 (s1.trans s2) I2 g2
    | true =>
      rw [if_pos rfl] at g1 ⊢
      exact q true F1 H1 M1 s1 I1 g1) x
/-- and, or, not as values -/
theorem he_one {op : BoolOp} (h : HE X W a ds M R Xp) : HE X W (.BoolOp op [a] pos) ds M R Xp := he_of (pe_one (pe_t X a)) h
theorem he_and (h : HE X W a ds M (fun z M1 => ∃ k, z = .d (.bl k) ∧ if k = true then HE X W (.BoolOp .And (b :: es) pos) ds M1 R Xp else R (.d (.bl false)) M1) Xp) : HE X W (.BoolOp .And (a :: b :: es) pos) ds M R Xp :=
  he_of (pe_and (pe_t X a) (pe_t X _)) fun n S F0 H0 F H σ I Q q x => h n S F0 H0 F H σ I _ (fun v F1 H1 M1 dv s1 I1 o1 g1 => by
    obtain ⟨k, rfl, g⟩ := g1
    cases o1
    refine ⟨k, rfl, ?_⟩
    cases k with
    | true =>
      rw [if_pos rfl] at g ⊢
      exact g n S F0 H0 F1 H1 σ I1 Q (fun v2 F2 H2 M2 d2 s2 I2 o2 g2 => q v2 F2 H2 M2 d2 (s1.trans s2) I2 o2 g2) fun cls F2 H2 M2 s2 I2 g2 => x cls F2 H2 M2 (s1.trans s2) I2 g2
    | false =>
      rw [if_neg Bool.false_ne_true] at g ⊢
      exact q _ F1 H1 M1 _ s1 I1 (VOk.dat (.bl _)) g) x
theorem he_or (h : HE X W a ds M (fun z M1 => ∃ k, z = .d (.bl k) ∧ if k = true then R (.d (.bl true)) M1 else HE X W (.BoolOp .Or (b :: es) pos) ds M1 R Xp) Xp) : HE X W (.BoolOp .Or (a :: b :: es) pos) ds M R Xp :=
  he_of (pe_or (pe_t X a) (pe_t X _)) fun n S F0 H0 F H σ I Q q x => h n S F0 H0 F H σ I _ (fun v F1 H1 M1 dv s1 I1 o1 g1 => by
    obtain ⟨k, rfl, g⟩ := g1
    cases o1
    refine ⟨k, rfl, ?_⟩
    cases k with
    | false =>
      rw [if_neg Bool.false_ne_true] at g ⊢
      exact g n S F0 H0 F1 H1 σ I1 Q (fun v2 F2 H2 M2 d2 s2 I2 o2 g2 => q v2 F2 H2 M2 d2 (s1.trans s2) I2 o2 g2) fun cls F2 H2 M2 s2 I2 g2 => x cls F2 H2 M2 (s1.trans s2) I2 g2
    | true =>
      rw [if_pos rfl] at g ⊢
      exact q _ F1 H1 M1 _ s1 I1 (VOk.dat (.bl _)) g) x
theorem he_not (h : HE X W a ds M (fun z M1 => ∃ k, z = .d (.bl k) ∧ R (.d (.bl (!k))) M1) Xp) : HE X W (.UnaryOp .Not a pos) ds M R Xp := he_of (pe_not (pe_t X a)) fun n S F0 H0 F H σ I Q q x =>
  h n S F0 H0 F H σ I _ (fun v F1 H1 M1 dv s1 I1 o1 g1 => by
    obtain ⟨k, rfl, g⟩ := g1
    cases o1
    exact ⟨k, rfl, q _ F1 H1 M1 _ s1 I1 (VOk.dat (.bl _)) g⟩) x

/-! ### blocks and statements -/
theorem hss_nil (h : pn ds M) : HSs X W [] ds M ⟨pn, pr, pb, pc, px⟩ := hss_of pss_nil fun _ S F0 H0 F H σ D I g _ _ _ _ => g F H M σ ds (.refl _) I rfl h
theorem hss_cons {st : Stmt} {rest : List Stmt} (h : HS X W st ds M ⟨fun ds' M' => HSs X W rest ds' M' ⟨pn, pr, pb, pc, px⟩, pr, pb, pc, px⟩) : HSs X W (st :: rest) ds M ⟨pn, pr, pb, pc, px⟩ :=
  hss_of (pss_cons (ps_t X st) (pss_t X rest)) fun n S F0 H0 F H σ D I g1 g2 g3 g4 g5 => h n S F0 H0 F H σ { D with nx := tSs X rest D } I
    (fun F1 H1 M1 σ1 ds1 s1 I1 n1 q1 => q1 (n.trans n1.symm) S F0 H0 F1 H1 σ1 D I1 (fun F2 H2 M2 σ2 ds2 s2 I2 n2 q2 => g1 F2 H2 M2 σ2 ds2 (s1.trans s2) I2 (n2.trans n1) q2)
      (fun v F2 H2 M2 σ2 ds2 dv s2 I2 o2 q2 => g2 v F2 H2 M2 σ2 ds2 dv (s1.trans s2) I2 o2 q2) (fun F2 H2 M2 σ2 ds2 s2 I2 n2 q2 => g3 F2 H2 M2 σ2 ds2 (s1.trans s2) I2 (n2.trans n1) q2)
      (fun F2 H2 M2 σ2 ds2 s2 I2 n2 q2 => g4 F2 H2 M2 σ2 ds2 (s1.trans s2) I2 (n2.trans n1) q2) fun cls F2 H2 M2 σ2 ds2 s2 I2 n2 q2 => g5 cls F2 H2 M2 σ2 ds2 (s1.trans s2) I2 (n2.trans n1) q2)
    (fun v F2 H2 M2 σ2 ds2 dv s2 I2 o2 q2 => g2 v F2 H2 M2 σ2 ds2 dv s2 I2 o2 q2) (fun F2 H2 M2 σ2 ds2 s2 I2 n2 q2 => g3 F2 H2 M2 σ2 ds2 s2 I2 n2 q2)
    (fun F2 H2 M2 σ2 ds2 s2 I2 n2 q2 => g4 F2 H2 M2 σ2 ds2 s2 I2 n2 q2) fun cls F2 H2 M2 σ2 ds2 s2 I2 n2 q2 => g5 cls F2 H2 M2 σ2 ds2 s2 I2 n2 q2
/-- x = e -/
theorem hs_set {x : Str} {dsf : DV → Slots} {i : Nat} {V L G B : List Str} {p : Pos} (k : Kx X V L G B) (m : Mm L x) (u : ∀ dv, Up ds x dv (dsf dv) i)
    (h : HE X W e ds M (fun dv M1 => pn (dsf dv) M1) (fun cls M1 => px cls ds M1)) (hs : swapsWith e (some (.Name x p)) pos.line X.env = pure false := by with_unfolding_all rfl) : HS X W (.Assign [.Name x p] e pos) ds M ⟨pn, pr, pb, pc, px⟩ := fun n =>
  hs_of (ps_set (i := i) k.nd (by rw [n]; exact (u .no).name) (k.st x m.mem).1 (pe_t X e) hs (k.st x m.mem).2) (fun _ S F0 H0 F H σ D I g1 g2 g3 g4 g5 =>
    h n S F0 H0 F H σ I _ (fun v F1 H1 M1 dv s1 I1 o1 q1 => g1 F1 H1 M1 _ (dsf dv) s1 (I1.slots ((u dv).set I1.env o1)) (u dv).names q1) fun cls F1 H1 M1 s1 I1 q1 => g5 cls F1 H1 M1 σ ds s1 I1 rfl q1) n
theorem hs_ret (h : HE X W e ds M (fun dv M1 => pr dv M1) (fun cls M1 => px cls ds M1)) : HS X W (.Return (some e) pos) ds M ⟨pn, pr, pb, pc, px⟩ := hs_of (ps_ret (pe_t X e)) fun n S F0 H0 F H σ D I g1 g2 g3 g4 g5 =>
  h n S F0 H0 F H σ I _ (fun v F1 H1 M1 dv s1 I1 o1 q1 => g2 v F1 H1 M1 σ ds dv s1 I1 o1 q1) fun cls F1 H1 M1 s1 I1 q1 => g5 cls F1 H1 M1 σ ds s1 I1 rfl q1
theorem hs_retN (h : pr (.d .non) M) : HS X W (.Return none pos) ds M ⟨pn, pr, pb, pc, px⟩ := hs_of ps_retN fun n S F0 H0 F H σ D I g1 g2 g3 g4 g5 => g2 _ F H M σ ds _ (.refl _) I (VOk.dat .non) h
theorem hs_drop (h : HE X W e ds M (fun dv M1 => pn ds M1) (fun cls M1 => px cls ds M1)) (hs : swapsWith e none pos.line X.env = pure false := by with_unfolding_all rfl) : HS X W (.Expr e pos) ds M ⟨pn, pr, pb, pc, px⟩ := hs_of (ps_expr (pe_t X e) hs) fun n S F0 H0 F H σ D I g1 g2 g3 g4 g5 =>
  h n S F0 H0 F H σ I _ (fun v F1 H1 M1 dv s1 I1 o1 q1 => g1 F1 H1 M1 σ ds s1 I1 rfl q1) fun cls F1 H1 M1 s1 I1 q1 => g5 cls F1 H1 M1 σ ds s1 I1 rfl q1
theorem hs_pass (h : pn ds M) : HS X W (.Pass pos) ds M ⟨pn, pr, pb, pc, px⟩ := hs_of ps_pass fun n S F0 H0 F H σ D I g1 g2 g3 g4 g5 => g1 F H M σ ds (.refl _) I rfl h
theorem hs_if {p q : List Stmt} (h : HT X W c ds M (fun k M1 => if k = true then HSs X W p ds M1 ⟨pn, pr, pb, pc, px⟩ else HSs X W q ds M1 ⟨pn, pr, pb, pc, px⟩) (fun cls M1 => px cls ds M1)) : HS X W (.If c p q pos) ds M ⟨pn, pr, pb, pc, px⟩ :=
  hs_of (ps_if (pt_t X c) (pss_t X p) (pss_t X q)) fun n S F0 H0 F H σ D I g1 g2 g3 g4 g5 => h n S F0 H0 F H σ I _ (fun k F1 H1 M1 s1 I1 q1 => by
    cases k with
    | true =>
      rw [if_pos rfl] at q1 ⊢
      exact q1 n S F0 H0 F1 H1 σ D I1 (fun F2 H2 M2 σ2 ds2 s2 I2 n2 q2 => g1 F2 H2 M2 σ2 ds2 (s1.trans s2) I2 n2 q2) (fun v F2 H2 M2 σ2 ds2 dv s2 I2 o2 q2 => g2 v F2 H2 M2 σ2 ds2 dv (s1.trans s2) I2 o2 q2)
        (fun F2 H2 M2 σ2 ds2 s2 I2 n2 q2 => g3 F2 H2 M2 σ2 ds2 (s1.trans s2) I2 n2 q2) (fun F2 H2 M2 σ2 ds2 s2 I2 n2 q2 => g4 F2 H2 M2 σ2 ds2 (s1.trans s2) I2 n2 q2) fun cls F2 H2 M2 σ2 ds2 s2 I2 n2 q2 => g5 cls F2 H2 M2 σ2 ds2 (s1.trans s2) I2 n2 q2
    | false =>
      rw [if_neg Bool.false_ne_true] at q1 ⊢
      exact q1 n S F0 H0 F1 H1 σ D I1 (fun F2 H2 M2 σ2 ds2 s2 I2 n2 q2 => g1 F2 H2 M2 σ2 ds2 (s1.trans s2) I2 n2 q2) (fun v F2 H2 M2 σ2 ds2 dv s2 I2 o2 q2 => g2 v F2 H2 M2 σ2 ds2 dv (s1.trans s2) I2 o2 q2)
        (fun F2 H2 M2 σ2 ds2 s2 I2 n2 q2 => g3 F2 H2 M2 σ2 ds2 (s1.trans s2) I2 n2 q2) (fun F2 H2 M2 σ2 ds2 s2 I2 n2 q2 => g4 F2 H2 M2 σ2 ds2 (s1.trans s2) I2 n2 q2) fun cls F2 H2 M2 σ2 ds2 s2 I2 n2 q2 => g5 cls F2 H2 M2 σ2 ds2 (s1.trans s2) I2 n2 q2)
    fun cls F1 H1 M1 s1 I1 q1 => g5 cls F1 H1 M1 σ ds s1 I1 rfl q1
end
end CS

/-! CsCall: defs under a room of one's own (FnR), what they promise (Oc, spD), how they are called. -/
namespace CS
open PySem L2

/-! ### room: one frame a call -/
structure Rm (d : Nat) (A : Around) : Prop where
  hd : A.handled = none
  dp : A.depth + d + 30 < recursionLimit
  un : A.units + 3 * d + 1000 < cLine
theorem Rm.mono {c d : Nat} {A : Around} (r : Rm d A) (h : c ≤ d) : Rm c A := ⟨r.hd, by have := r.dp; omega, by have := r.un; omega⟩
theorem Rm.room {d : Nat} {A : Around} (r : Rm d A) : Room 5 A := ⟨r.hd, by have := r.dp; omega, by have := r.un; omega⟩
theorem Rm.deeper {d : Nat} {A : Around} (r : Rm (d + 1) A) (env : Env) : Rm d (A.deeper env) :=
  ⟨r.hd, by have := r.dp; show A.depth + 1 + d + 30 < _; omega, by have := r.un; show A.units + 3 + 3 * d + 1000 < _; omega⟩
theorem Rm.units {d : Nat} {A : Around} (r : Rm d A) : A.units + 64 < cLine := r.room.units
theorem Rm.hu {d : Nat} {A : Around} (r : Rm d A) : A.units + 1 < cLine := hu_of r.room

/-- a def that keeps its promise where there is room for d frames -/
structure FnR (P : Program) (w : World) (K : PySem.W.Frag) (mg : Str → Option Value) (base : Heap) (CX : CXT) (d : Nat) (f : Addr) (fd : FuncData) (ps : List Str) (sp : Sp) : Prop where
  len : ∀ vs H Q E, sp vs H Q E → vs.length = ps.length
  go : ∀ (A : Around) (outer : List Env) (s : Shared) (H : Hp) (args : Args) (us : List Value) (vs : List V) (Q : VK) (E : XK), Rm d A → Env0 P w K mg base A outer s H → BindsTo s fd args (ps.zip us) →
    Vals vs us → sp vs H Q E → codeAny (model P w) A (.call (.ref f) args) (CR CX outer P w H s Q E) s
section
variable {P : Program} {w : World} {K : PySem.W.Frag} {mg : Str → Option Value} {base : Heap} {CX : CXT}
theorem FnR.mono {c d : Nat} {f : Addr} {fd : FuncData} {ps : List Str} {sp : Sp} (F : FnR P w K mg base CX c f fd ps sp) (h : c ≤ d) : FnR P w K mg base CX d f fd ps sp :=
  ⟨F.len, fun A outer s H args us vs Q E r e b v q => F.go A outer s H args us vs Q E (r.mono h) e b v q⟩
/-- the rule for a def of the text: its body under the room of one frame less -/
theorem fnr_of {x qual : Str} {st : Stmt} {f : Addr} {fd : FuncData} {N ps : List Str} {d : Nat} {sp : Sp} (T : Fun K x qual st f fd) (S : FnScope N ps (defScope st)) (len : ∀ vs H Q E, sp vs H Q E → vs.length = ps.length)
    (body : ∀ (cdv : Value) (A : Around) (outer : List Env) (s : Shared) (H : Hp) (vs : List V) (Q : VK) (E : XK), Rm d (A.deeper (PyProof.Rows.envOfC qual (defScope st) s.heap.objs.size f cdv)) → sp vs H Q E →
      ∃ t, PSs (cxOf CX P w K mg base N qual (defScope st) f cdv A outer s H E) (defBody st) t ∧ t { nx := fun _ H' => Q .non H', rt := Q } (L2.start N vs) H) : FnR P w K mg base CX (d + 1) f fd ps sp := by
  obtain ⟨oc, od, kV, doc, pm, an, cdv, ct, osl, rfl, lk, hcd⟩ := T.ex
  refine ⟨len, fun A outer s H args us vs Q E hr e0 hb rv hsp => ?_⟩
  have hl := len _ _ _ _ hsp
  have kin : K.In s.heap := e0.mod.kin.keeps fun b o e => (e0.bs b o e).1
  have nlim : s.heap.NoLimit := e0.mod.nolimit.keeps fun b o e => (e0.bs b o e).1
  have kinds : ∀ y ∈ ps.zip us, (defScope st).names.lookup y.1 = some .local ∨ ((defScope st).names.lookup y.1 = some .cell ∧ ((cellsFrom (s.heap.objs.size + 1) (defScope st).names []).lookup y.1).isSome = true) := by
    rintro ⟨n, v⟩ hy
    exact (S.par n (List.of_mem_zip hy).1).imp (fun q => q) fun q => ⟨q, PySem.W.cellsFrom_some _ _ _ (.inl q)⟩
  have hdep : A.depth < recursionLimit := by have := hr.dp; omega
  refine codeAny_call_function hdep (kin _ _ lk) rfl S.co S.gen rfl (PySem.W.codeRec_of kin hcd) (hb _ _ _ _ ?_)
  refine wpAny_newFunctionEnv_cells S.kind kinds fun env he s1 x1 => ?_
  subst he
  refine ⟨nlim.keeps x1.toInCall.keep, codeAny_func ?_⟩
  obtain ⟨t, ht, hq⟩ := body cdv A outer s H vs Q E (hr.deeper _) hsp
  have J : Inv (cxOf CX P w K mg base N qual (defScope st) f cdv A outer s H E) [] (start N vs) H s1 := inv_start S hr.hd e0 hl rv x1
  refine wpAny_mono (ht.run [] s1 (L2.start N vs) H _ J hq) (fun fl s' hs => ?_) fun _ _ z => z
  cases fl with
  | ret u =>
    obtain ⟨v, σ', H', I', r', q'⟩ := hs
    exact ⟨v, H', I'.os, I'.bare, I'.base, I'.hok, r', q'⟩
  | next =>
    obtain ⟨σ', H', I', q'⟩ := hs
    exact ⟨.non, H', I'.os, I'.bare, I'.base, I'.hok, rfl, q'⟩
  | brk =>
    obtain ⟨_, _, _, q'⟩ := hs
    exact q'.elim
  | cont =>
    obtain ⟨_, _, _, q'⟩ := hs
    exact q'.elim
end

/-- a def that a name of the module holds -/
def Def (P : Program) (w : World) (K : PySem.W.Frag) (mg : Str → Option Value) (base : Heap) (CX : CXT) (d : Nat) (x : Str) (ps : List Str) (sp : Sp) : Prop :=
  ∃ f fd, FnR P w K mg base CX d f fd ps sp ∧ mg x = some (.ref f) ∧ PySem.W.keepIn K (.ref f) = true ∧ Binds K fd ps []
theorem Def.mono {P : Program} {w : World} {K : PySem.W.Frag} {mg : Str → Option Value} {base : Heap} {CX : CXT} {c d : Nat} {x : Str} {ps : List Str} {sp : Sp} (D : Def P w K mg base CX c x ps sp) (h : c ≤ d) : Def P w K mg base CX d x ps sp := by
  obtain ⟨f, fd, G, r⟩ := D
  exact ⟨f, fd, G.mono h, r⟩
section
variable {X : Cx} {CX : CXT} {d : Nat} {f C : Addr} {fd : FuncData} {ps : List Str} {sp : Sp} {E : St → XK} {x m : Str} {p pos apos : Pos} {e o : Expr} {es : List Expr} {ta : TE} {t : TA}
theorem go_fnr {pins : List (Addr × Obj)} {σ : St} {H : Hp} {s : Shared} {Q : VK} {us : List Value} {vs : List V} (G : FnR X.prog X.w X.K X.mg X.base CX d f fd ps sp) (hr : Rm d X.A) (hb : Binds X.K fd ps []) (hx : PassesAt CX X σ (E σ))
    (J : Inv X pins σ H s) (rv : Vals vs us) (h : sp vs H Q (E σ)) : wpAny (model X.prog X.w) X.A (call (.ref f) us) (EP X pins σ Q) X.xe s := by
  have hl : us.length = ps.length := rv.length.symm.trans (G.len _ _ _ _ h)
  have hb' : BindsTo s fd ⟨us, []⟩ (ps.zip us) := by
    have z := hb s us J.kIn (by rw [List.append_nil]; exact hl)
    rw [List.append_nil] at z
    exact z
  refine wpAny_call (codeAny_mono (G.go X.A X.stack s H ⟨us, []⟩ us vs Q (E σ) hr J.env0 hb' rv h) fun res s' hq => ?_)
  match res, hq with
  | .error _, hq => exact hx pins H s _ s' J hq
  | .ok (.ret _), hq => exact J.after hq
theorem pe_callR (D : Def X.prog X.w X.K X.mg X.base CX d x ps sp) (hr : Rm d X.A) (hg : Gl X x) (hx : ∀ σ, PassesAt CX X σ (E σ)) (ha : PA X (e :: es) t) (hdb : (x == ("__debug__" : Str)) = false)
    (he : starEach (e :: es) X.env = (false, eval e X.env) :: starEach es X.env := by with_unfolding_all rfl) (hpl : (backTo pos (starEach es X.env)).any (·.1) = false := by with_unfolding_all rfl) : PE X (.Call (.Name x p) (e :: es) [] pos) (tCallS sp E t) := by
  obtain ⟨f, fd, G, hm, hk, hb⟩ := D
  refine ⟨fun pins s σ H Q J h => wpAny_Call_Name_kw (ld_glob J hg hm ?_ hdb)⟩
  refine PySem.W.callWith_K (h₀ := X.base) J.ok.mod.kin hk (thn (ha.run pos pins s σ H _ J h) fun us s1 hh => ?_) he hpl
  obtain ⟨vs, H1, J1, rv, q⟩ := hh
  exact ⟨J1.kIn, go_fnr G hr hb (hx σ) J1 rv q⟩
theorem pe_callR0 (D : Def X.prog X.w X.K X.mg X.base CX d x ps sp) (hr : Rm d X.A) (hg : Gl X x) (hx : ∀ σ, PassesAt CX X σ (E σ)) (hdb : (x == ("__debug__" : Str)) = false) : PE X (.Call (.Name x p) [] [] pos) (tCallS sp E tNil) := by
  obtain ⟨f, fd, G, hm, hk, hb⟩ := D
  refine ⟨fun pins s σ H Q J h => wpAny_Call_Name_kw (ld_glob J hg hm ?_ hdb)⟩
  exact PySem.W.callWith_K0 J.kIn hk (go_fnr (us := []) G hr hb (hx σ) J .nil h)
end

/-! ### promises over data -/
/-- a call's end: data, a new list that nobody else knows, an exception of a class -/
inductive Oc where
  | val (d : Dat) | new (xs : List Dat) | exc (cls : Value)
/-- a def over data that changes nothing of what stood: Rel tells its end -/
def spD (K : PySem.W.Frag) (Rel : List Dat → Oc → Prop) : Sp := fun vs H Q E => ∃ F as o, Same F H ∧ RpL K F vs as ∧ Rel as o ∧ match o with
  | .val d => ∀ v F' H', Ext F H F' H' → Rp K F' v d → Q v H'
  | .new xs => ∀ p us F' H', Ext F H F' H' → H p = none → F' p = none → H' p = some (.lst us) → RpL K F' us xs → Q (.ref p) H'
  | .exc c => ∀ F' H', Ext F H F' H' → E c none H'
/-- the place of a call's end in a state -/
def Fin (o : Oc) (R : DV → Mem → Prop) (Xp : Value → Mem → Prop) (M : Mem) : Prop := match o with
  | .val d => R (.d d) M
  | .new xs => ∀ p : Addr, R (.m p) ((p, MO.lst (xs.map DV.d)) :: M)
  | .exc c => Xp c M
inductive AllD : List DV → List Dat → Prop
  | nil : AllD [] []
  | cons {d : Dat} {l : List DV} {r : List Dat} : AllD l r → AllD (.d d :: l) (d :: r)
theorem AllD.rp {K : PySem.W.Frag} {F : Hp} : ∀ {l : List DV} {r : List Dat} {vs : List V}, AllD l r → VL K F vs l → RpL K F vs r
  | _, _, _, .nil, .nil => .nil
  | _, _, _, .cons h, .cons a b => .cons a (h.rp b)
theorem In.extN {K : PySem.W.Frag} {S : Addr → Prop} {F0 H0 F H F' H' : Hp} {M : Mem} {σ : St} {ds : Slots} {p : Addr} {o : HO} {m : MO} (I : In K S F0 H0 F H M σ ds) (x : Ext F H F' H') (n : H p = none) (nf : F' p = none) (hp : H' p = some o) (ho : OOk K F' o m) :
    In K S F0 H0 F' H' (M ++ [(p, m)]) σ ds := by
  have J := I.ext x
  have n0 : H0 p = none := by
    cases q : H0 p with
    | none => rfl
    | some u =>
      obtain ⟨u', hu⟩ := I.there p u q
      rw [n] at hu
      cases hu
  refine ⟨J.env, J.ff, J.fh, J.new, J.keep, J.there, fun e he => ?_, fun e he => ?_, ?_⟩
  · rcases List.mem_append.mp he with he | he
    · exact J.mem e he
    · have e' : e = (p, m) := List.mem_singleton.mp he
      subst e'
      exact ⟨nf, o, hp, ho⟩
  · rcases List.mem_append.mp he with he | he
    · exact J.own e he
    · have e' : e = (p, m) := List.mem_singleton.mp he
      subst e'
      exact .inl n0
  · rw [List.map_append]
    refine List.nodup_append.mpr ⟨I.nd, by simp, fun a ha b hb => ?_⟩
    obtain ⟨e, he, rfl⟩ := List.mem_map.mp ha
    obtain ⟨_, u, h2, _⟩ := I.mem e he
    have e' : b = p := by simpa using hb
    rw [e']
    exact ne_of_none h2 n
/-- exceptions out of a call: none, or at the wish -/
def Lets (CX : CXT) (X : Cx) (W : WX) : Prop := ∀ σ, PassesAt CX X σ (WE W σ)
theorem lets0 {X : Cx} {W : WX} : Lets CX0 X W := fun _ _ _ _ _ _ _ h => h.elim
theorem letsX {X : Cx} {W : WX} (tk : Takes X W) : Lets (L2.CX X.prog X.w) X W := fun σ => passAt tk σ
section
variable {X : Cx} {W : WX} {CX : CXT} {d : Nat} {x : Str} {ps : List Str} {Rel : List Dat → Oc → Prop} {e : Expr} {es : List Expr} {ds : Slots} {M : Mem} {R : DV → Mem → Prop} {Xp : Value → Mem → Prop} {p pos : Pos} {V L G B : List Str}
theorem we_callD {K : PySem.W.Frag} {t : TA} (h : Wa K W t ds M (fun dvs M1 => ∃ as o, AllD dvs as ∧ Rel as o ∧ Fin o R Xp M1) Xp) : We K W (tCallS (spD K Rel) (WE W) t) ds M R Xp := fun S F0 H0 F H σ I Q q x =>
  h S F0 H0 F H σ I _ (fun vs F1 H1 M1 dvs s1 I1 o1 g1 => by
    obtain ⟨as, o, ha, hr, g⟩ := g1
    refine ⟨F1, as, o, I1.fh, ha.rp o1, hr, ?_⟩
    cases o with
    | val d => exact fun v F' H' y r => q v F' H' M1 _ (s1.trans y.ff) (I1.ext y) (VOk.dat r) g
    | new xs => exact fun p us F' H' y n nf hp r => q _ F' H' _ (.m p) (s1.trans y.ff) ((I1.extN y n nf hp (.lst (VL.of_data r))).perm (List.perm_append_singleton _ _)) rfl (g p)
    | exc c => exact fun F' H' y => x c F' H' M1 (s1.trans y.ff) (I1.ext y) g) x
/-- f(e, ..), f a def over data -/
theorem he_call (D : Def X.prog X.w X.K X.mg X.base CX d x ps (spD X.K Rel)) (k : Kx X V L G B) (m : Mm G x) (hr : Rm d X.A) (hx : Lets CX X W) (h : HA X W (e :: es) ds M (fun dvs M1 => ∃ as o, AllD dvs as ∧ Rel as o ∧ Fin o R Xp M1) Xp)
    (he : starEach (e :: es) X.env = (false, eval e X.env) :: starEach es X.env := by with_unfolding_all rfl) (hpl : (backTo pos (starEach es X.env)).any (·.1) = false := by with_unfolding_all rfl) : HE X W (.Call (.Name x p) (e :: es) [] pos) ds M R Xp :=
  he_of (pe_callR D hr (k.gl x m.mem).1 hx (pa_t X _) (k.gl x m.mem).2 he hpl) fun n => we_callD (h n)
end

/-! ### a def over data keeps its promise -/
section
variable {P : Program} {w : World} {K : PySem.W.Frag} {mg : Str → Option Value} {base : Heap} {CX : CXT}
def zipD : List Str → List Dat → Slots
  | [], _ => []
  | x :: r, [] => (x, .no) :: zipD r []
  | x :: r, d :: s => (x, .d d) :: zipD r s
theorem zipD_names : ∀ (N : List Str) (as : List Dat), (zipD N as).map (·.1) = N
  | [], _ => rfl
  | x :: r, [] => by rw [zipD, List.map_cons, zipD_names]
  | x :: r, d :: s => by rw [zipD, List.map_cons, zipD_names]
theorem env_none {F : Hp} : ∀ (N : List Str), EnvOk K F (List.replicate N.length none) (zipD N [])
  | [] => .nil
  | x :: r => .cons trivial (env_none r)
theorem env_start {F : Hp} : ∀ (N : List Str) (vs : List V) (as : List Dat), RpL K F vs as → vs.length ≤ N.length → EnvOk K F (L2.start N vs) (zipD N as)
  | N, [], _, .nil, _ => by
    show EnvOk K F (([] : List V).map some ++ List.replicate (N.length - 0) none) (zipD N [])
    rw [List.map_nil, List.nil_append, Nat.sub_zero]
    exact env_none N
  | [], v :: vs, _, .cons _ _, hl => by simp at hl
  | x :: N, v :: vs, _, .cons h r, hl => by
    have q := env_start N vs _ r (by simpa using hl)
    have e : L2.start (x :: N) (v :: vs) = some v :: L2.start N vs := by
      unfold L2.start
      rw [List.length_cons, List.length_cons, Nat.add_sub_add_right]
      rfl
    rw [e]
    exact .cons (.of (d := .d _) h) q
/-- what is wanted of a def's body over data -/
def PoD (o : Oc) : Po where
  n := fun _ _ => o = .val .non
  r := fun dv M => match o with
    | .val d => dv = .d d
    | .new xs => ∃ (p : Addr) (i : Nat), dv = .m p ∧ M[i]? = some (p, MO.lst (xs.map DV.d))
    | .exc _ => False
  x := fun cls _ _ => o = .exc cls
theorem spD_len {Rel : List Dat → Oc → Prop} {n : Nat} (h : ∀ as o, Rel as o → as.length = n) : ∀ vs H Q E, spD K Rel vs H Q E → vs.length = n := fun vs H Q E ⟨F, as, o, _, r, hr, _⟩ => r.len.trans (h as o hr)
theorem def_ok {x qual : Str} {st : Stmt} {f : Addr} {fd : FuncData} {N ps : List Str} {d : Nat} {Rel : List Dat → Oc → Prop} (T : Fun K x qual st f fd) (S : FnScope N ps (defScope st)) (hps : ps.length ≤ N.length) (len : ∀ as o, Rel as o → as.length = ps.length)
    (body : ∀ (cdv : Value) (A : Around) (outer : List Env) (s : Shared) (H : Hp) (E : XK) (as : List Dat) (o : Oc), Rm d (A.deeper (PyProof.Rows.envOfC qual (defScope st) s.heap.objs.size f cdv)) → Rel as o →
      HSs (cxOf CX P w K mg base N qual (defScope st) f cdv A outer s H E) (fun c dd _ H => E c dd H) (defBody st) (zipD N as) [] (PoD o)) : FnR P w K mg base CX (d + 1) f fd ps (spD K Rel) := by
  refine fnr_of T S (spD_len len) fun cdv A outer s H vs Q E hr h => ⟨_, pss_t _ _, ?_⟩
  obtain ⟨F, as, o, fh, r, hrel, q⟩ := h
  have hl : vs.length ≤ N.length := by rw [r.len, len as o hrel]; exact hps
  refine body cdv A outer s H E as o hr hrel (zipD_names N as).symm (fun _ => False) F H F H _ _ (.start0 fh (env_start N vs as r hl)) ?_ ?_ ?_ ?_ ?_
  · intro F' H' M' σ' ds' s1 I1 n1 g1
    have g1 : o = .val .non := g1
    subst g1
    exact q .non F' H' I1.out .non
  · intro v F' H' M' σ' ds' dv s1 I1 o1 g1
    cases o with
    | val d =>
      have g1 : dv = .d d := g1
      subst g1
      exact q v F' H' I1.out o1
    | new xs =>
      obtain ⟨p, i, rfl, hm⟩ := g1
      have o1 : v = .ref p := o1
      subst o1
      have hmem : (p, MO.lst (xs.map DV.d)) ∈ M' := List.mem_of_getElem? hm
      obtain ⟨nf, u, hu, ou⟩ := I1.mem _ hmem
      have n0 : H p = none := (I1.own _ hmem).resolve_right (fun z => z)
      cases ou with
      | lst l => exact q p _ F' H' I1.out n0 nf hu l.to_data
    | exc c => exact (show False from g1).elim
  · exact fun _ _ _ _ _ _ _ _ g => (show False from g).elim
  · exact fun _ _ _ _ _ _ _ _ g => (show False from g).elim
  · intro cls F' H' M' σ' ds' s1 I1 n1 g1
    have g1 : o = .exc cls := g1
    subst g1
    exact q F' H' I1.out
end
end CS

/-! CsData: displays, subscripts, slices, +, built-ins, loops, comprehensions, over data. -/
namespace CS
open PySem L2

section
variable {K : PySem.W.Frag} {F F' H H' : Hp}
theorem RpL.at {vs : List V} {ds : List Dat} {i : Int} {d : Dat} (r : RpL K F vs ds) (h : atI ds i = some d) : ∃ v, atI vs i = some v ∧ Rp K F v d := by
  unfold atI at h ⊢
  rw [r.len]
  cases e : ixN ds.length i with
  | none => rw [e] at h; cases h
  | some j =>
    rw [e] at h
    exact r.get (i := j) h
theorem RpL.cut {vs : List V} {ds : List Dat} (r : RpL K F vs ds) (n m : Nat) : RpL K F ((vs.drop n).take m) ((ds.drop n).take m) := (r.drop n).take m
/-- what a subscript finds -/
inductive Ixd (M : Mem) : DV → Int → DV → Prop
  | lst {xs : List Dat} {i : Int} {d : Dat} (h : atI xs i = some d) : Ixd M (.d (.lst xs)) i (.d d)
  | tup {xs : List Dat} {i : Int} {d : Dat} (h : atI xs i = some d) : Ixd M (.d (.tup xs)) i (.d d)
  | scr {xs : List Int} {i j : Int} (h : atI xs i = some j) : Ixd M (.d (.scr xs)) i (.d (.int j))
  | str {s : Str} {i : Int} {c : Nat} (hl : s.length ≤ sizeLine) (h : atI s.cps.toList i = some c) : Ixd M (.d (.str s)) i (.d (.str ⟨#[c]⟩))
  | mu {p : Addr} {xs : List DV} {i : Int} {d : DV} {j : Nat} (hm : M[j]? = some (p, .lst xs)) (h : atI xs i = some d) : Ixd M (.m p) i d
  | mt {p : Addr} {xs : List DV} {i : Int} {d : DV} {j : Nat} (hm : M[j]? = some (p, .tup xs)) (h : atI xs i = some d) : Ixd M (.m p) i d
theorem VL.at {vs : List V} {ds : List DV} {i : Int} {d : DV} (r : VL K F vs ds) (h : atI ds i = some d) : ∃ v, atI vs i = some v ∧ VOk K F v d := by
  unfold atI at h ⊢
  rw [r.len]
  cases e : ixN ds.length i with
  | none => rw [e] at h; cases h
  | some j =>
    rw [e] at h
    exact r.get (i := j) h
theorem atI_map {α β : Type} (f : α → β) {xs : List α} {i : Int} {x : α} (h : atI xs i = some x) : atI (xs.map f) i = some (f x) := by
  unfold atI at h ⊢
  rw [List.length_map]
  cases e : ixN xs.length i with
  | none => rw [e] at h; cases h
  | some j =>
    rw [e] at h
    have h : xs[j]? = some x := h
    show (xs.map f)[j]? = some (f x)
    rw [List.getElem?_map, h]
    rfl
def dIx : DV → DV → Mem → (DV → Mem → Prop) → Prop := fun a b M R => ∃ i d, b = .d (.int i) ∧ Ixd M a i d ∧ R d M
theorem od_ix : OD K (rIx K) dIx := by
  rintro S F0 H0 F H M σ ds a b v w R Q I oa ob ⟨i, d, rfl, hx, h⟩ q
  cases ob
  cases hx with
  | lst h1 =>
    cases oa with
    | lst hF r =>
      obtain ⟨u, hu, ru⟩ := r.at h1
      exact .inl ⟨_, _, i, u, rfl, rfl, .of (I.fh _ _ hF), hu, q _ F H M _ (.refl _) I (VOk.dat ru) h⟩
  | tup h1 =>
    cases oa with
    | tup hF r =>
      obtain ⟨u, hu, ru⟩ := r.at h1
      exact .inr (.inl ⟨_, _, i, u, rfl, rfl, .of (I.fh _ _ hF), hu, q _ F H M _ (.refl _) I (VOk.dat ru) h⟩)
  | scr h1 =>
    cases oa with
    | scr hF => exact .inl ⟨_, _, i, _, rfl, rfl, I.fh.seq hF, atI_map V.int h1, q _ F H M _ (.refl _) I (VOk.dat (.int _)) h⟩
  | str hl h1 =>
    cases oa
    exact .inr (.inr ⟨_, i, _, rfl, rfl, hl, h1, q _ F H M _ (.refl _) I (VOk.dat (.str _)) h⟩)
  | mu hm h1 =>
    have oa : v = .ref _ := oa
    subst oa
    obtain ⟨nf, o, ho, ok⟩ := I.mem _ (List.mem_of_getElem? hm)
    cases ok with
    | lst l =>
      obtain ⟨u, hu, ru⟩ := l.at h1
      exact .inl ⟨_, _, i, u, rfl, rfl, .of ho, hu, q _ F H M _ (.refl _) I ru h⟩
  | mt hm h1 =>
    have oa : v = .ref _ := oa
    subst oa
    obtain ⟨nf, o, ho, ok⟩ := I.mem _ (List.mem_of_getElem? hm)
    cases ok with
    | tup l =>
      obtain ⟨u, hu, ru⟩ := l.at h1
      exact .inr (.inl ⟨_, _, i, u, rfl, rfl, .of ho, hu, q _ F H M _ (.refl _) I ru h⟩)
/-- a list: data, or one that may change -/
inductive LOf (M : Mem) : DV → List Dat → Prop
  | dat {xs : List Dat} : LOf M (.d (.lst xs)) xs
  | mu {p : Addr} {xs : List Dat} {i : Nat} (h : M[i]? = some (p, .lst (xs.map .d))) : LOf M (.m p) xs
theorem LOf.get {S : Addr → Prop} {F0 H0 : Hp} {M : Mem} {σ : L2.St} {ds : Slots} {v : V} {a : DV} {xs : List Dat} (I : In K S F0 H0 F H M σ ds) (o : VOk K F v a) (l : LOf M a xs) : ∃ p vs, v = .ref p ∧ H p = some (.lst vs) ∧ RpL K F vs xs := by
  cases l with
  | dat =>
    cases o with
    | lst hF r => exact ⟨_, _, rfl, I.fh _ _ hF, r⟩
  | mu h =>
    have o : v = .ref _ := o
    subst o
    obtain ⟨nf, o, ho, ok⟩ := I.mem _ (List.mem_of_getElem? h)
    cases ok with
    | lst l => exact ⟨_, _, rfl, ho, l.to_data⟩
/-- list + list -/
def dCat : DV → DV → Mem → (DV → Mem → Prop) → Prop := fun a b M R => ∃ xs ys, LOf M a xs ∧ LOf M b ys ∧ xs.length + ys.length ≤ sizeLine ∧ R (.d (.lst (xs ++ ys))) M
theorem od_cat : OD K rCat dCat := by
  rintro S F0 H0 F H M σ ds a b v w R Q I oa ob ⟨xs, ys, la, lb, hz, h⟩ q
  obtain ⟨p, vs, rfl, hp, rp⟩ := la.get I oa
  obtain ⟨p2, ws, rfl, hp2, rp2⟩ := lb.get I ob
  refine ⟨p, p2, vs, ws, rfl, rfl, hp, hp2, by rw [rp.len, rp2.len]; exact hz, fun r hr => ?_⟩
  have x := Ext.lay (.lst (vs ++ ws)) I.fh hr
  exact q _ _ _ M _ x.ff (I.ext x) (VOk.dat (.lst upd_same ((rp.append rp2).mono x.ff))) h
/-- the same, the result not frozen -/
def dCatM : DV → DV → Mem → (DV → Mem → Prop) → Prop := fun a b M R => ∃ xs ys, LOf M a xs ∧ LOf M b ys ∧ xs.length + ys.length ≤ sizeLine ∧ ∀ p, R (.m p) ((p, .lst ((xs ++ ys).map .d)) :: M)
theorem od_catM : OD K rCat dCatM := by
  rintro S F0 H0 F H M σ ds a b v w R Q I oa ob ⟨xs, ys, la, lb, hz, h⟩ q
  obtain ⟨p, vs, rfl, hp, rp⟩ := la.get I oa
  obtain ⟨p2, ws, rfl, hp2, rp2⟩ := lb.get I ob
  refine ⟨p, p2, vs, ws, rfl, rfl, hp, hp2, by rw [rp.len, rp2.len]; exact hz, fun r hr => ?_⟩
  exact q _ F _ _ (.m r) (.refl _) (I.newC hr (.lst (VL.of_data (rp.append rp2)))) rfl (h r)
/-- tuple + tuple -/
def dCatT : DV → DV → Mem → (DV → Mem → Prop) → Prop := fun a b M R => ∃ xs ys, a = .d (.tup xs) ∧ b = .d (.tup ys) ∧ xs ≠ [] ∧ xs.length + ys.length ≤ sizeLine ∧ R (.d (.tup (xs ++ ys))) M
def dCatS : DV → DV → Mem → (DV → Mem → Prop) → Prop := fun a b M R => ∃ s t, a = .d (.str s) ∧ b = .d (.str t) ∧ s.length + t.length ≤ sizeLine ∧ R (.d (.str (s ++ t))) M
theorem od_catT : OD K (rCatT K) dCatT := by
  rintro S F0 H0 F H M σ ds a b v w R Q I oa ob ⟨xs, ys, rfl, rfl, hn, hz, h⟩ q
  cases oa with
  | tup hF r =>
    cases ob with
    | tup hF2 r2 =>
      rename_i p vs p2 ws
      refine ⟨p, p2, vs, ws, rfl, rfl, .of (I.fh _ _ hF), .of (I.fh _ _ hF2), ?_, by rw [r.len, r2.len]; exact hz, fun e => ?_, fun e r3 hr => ?_⟩
      · intro e
        have z := r.len
        rw [e] at z
        exact hn (List.length_eq_zero_iff.mp z.symm)
      · have z := r2.len
        rw [e] at z
        have e' : ys = [] := List.length_eq_zero_iff.mp z.symm
        refine q _ F H M _ (.refl _) I (VOk.dat (.tup hF ?_)) h
        rw [e', List.append_nil]
        exact r
      · have x := Ext.lay (.tup (vs ++ ws)) I.fh hr
        exact q _ _ _ M _ x.ff (I.ext x) (VOk.dat (.tup upd_same ((r.append r2).mono x.ff))) h
theorem od_catS : OD K (fun x y H Q => ∃ i j, x = .str i ∧ y = .str j ∧ i.length + j.length ≤ sizeLine ∧ Q (.str (i ++ j)) H) dCatS := by
  rintro S F0 H0 F H M σ ds a b v w R Q I oa ob ⟨s, t, rfl, rfl, hz, h⟩ q
  cases oa
  cases ob
  exact ⟨s, t, rfl, rfl, hz, q _ F H M _ (.refl _) I (VOk.dat (.str _)) h⟩
/-- list * int -/
def dRep : DV → DV → Mem → (DV → Mem → Prop) → Prop := fun a b M R => ∃ xs k, LOf M a xs ∧ b = .d (.int k) ∧ -(2 ^ 63) ≤ k ∧ k < 2 ^ 63 ∧ xs.length * k.toNat ≤ sizeLine ∧ R (.d (.lst (List.replicate k.toNat xs).flatten)) M
theorem RpL.rep {F : Hp} {vs : List V} {ds : List Dat} (r : RpL K F vs ds) : ∀ n : Nat, RpL K F (List.replicate n vs).flatten (List.replicate n ds).flatten
  | 0 => .nil
  | n + 1 => by
    rw [List.replicate_succ, List.replicate_succ, List.flatten_cons, List.flatten_cons]
    exact r.append (r.rep n)
theorem od_rep : OD K rRep dRep := by
  rintro S F0 H0 F H M σ ds a b v w R Q I oa ob ⟨xs, k, la, rfl, h1, h2, hz, h⟩ q
  obtain ⟨p, vs, rfl, hp, rp⟩ := la.get I oa
  cases ob
  refine ⟨p, k, vs, rfl, rfl, hp, h1, h2, by rw [rp.len]; exact hz, fun r hr => ?_⟩
  have x := Ext.lay (.lst (List.replicate k.toNat vs).flatten) I.fh hr
  exact q _ _ _ M _ x.ff (I.ext x) (VOk.dat (.lst upd_same ((rp.rep k.toNat).mono x.ff))) h
end

section
variable {X : Cx} {W : WX} {e a b c : Expr} {es : List Expr} {ds : Slots} {M : Mem} {R : DV → Mem → Prop} {Xp : Value → Mem → Prop} {pos p2 : Pos} {P : Po}
/-- a + b: ints, lists, tuples, texts -/
theorem he_addI (h : HE X W a ds M (fun x M1 => HE X W b ds M1 (fun y M2 => dI0 (fun i j => .int (i + j)) x y M2 R) Xp) Xp) : HE X W (.BinOp a .Add b pos) ds M R Xp := he_bin op_add (od_I0 fun F i j => .int _) h
def dAdd : DV → DV → Mem → (DV → Mem → Prop) → Prop := fun x y M R => dI0 (fun i j => .int (i + j)) x y M R ∨ dCat x y M R ∨ dCatT x y M R ∨ dCatS x y M R
theorem he_add (h : HE X W a ds M (fun x M1 => HE X W b ds M1 (fun y M2 => dAdd x y M2 R) Xp) Xp) : HE X W (.BinOp a .Add b pos) ds M R Xp :=
  he_bin (OpR.or op_add (OpR.or op_cat (OpR.or op_catT op_add_str))) ((od_I0 fun F i j => .int _).or (od_cat.or (od_catT.or od_catS))) h
theorem he_catM (h : HE X W a ds M (fun x M1 => HE X W b ds M1 (fun y M2 => dCatM x y M2 R) Xp) Xp) : HE X W (.BinOp a .Add b pos) ds M R Xp := he_bin op_cat od_catM h
theorem he_rep (h : HE X W a ds M (fun x M1 => HE X W b ds M1 (fun y M2 => dRep x y M2 R) Xp) Xp) : HE X W (.BinOp a .Mult b pos) ds M R Xp := he_bin op_rep od_rep h
/-- a[i] -/
theorem he_ix (h : HE X W a ds M (fun x M1 => HE X W b ds M1 (fun y M2 => dIx x y M2 R) Xp) Xp) (hs : PlainIx b := by intro _ _; with_unfolding_all rfl) : HE X W (.Subscript a b pos) ds M R Xp :=
  he_of (pe_ix ix_seq (pe_t X a) (pe_t X b) hs) fun n => we_op od_ix (we_imp (h n) fun _ _ g => g n)
/-- a display of data -/
theorem he_tup {k : Nat} (h : HA X W es ds M (fun dvs M1 => ∃ as, AllD dvs as ∧ as.length ≤ 1000 ∧ R (.d (.tup as)) M1) Xp) : HE X W (.Tuple es k pos) ds M R Xp := he_of (pe_tup (pa_t X es)) fun n S F0 H0 F H σ I Q q x =>
  h n S F0 H0 F H σ I _ (fun vs F1 H1 M1 dvs s1 I1 o1 g1 => by
    obtain ⟨as, ha, hl, g⟩ := g1
    have r := ha.rp o1
    refine ⟨by rw [r.len]; exact Nat.le_of_lt (small1000 hl), fun p hp => ?_⟩
    have y := Ext.lay (.tup vs) I1.fh hp
    exact q _ _ _ M1 _ (s1.trans y.ff) (I1.ext y) (VOk.dat (.tup upd_same (r.mono y.ff))) g) x
/-- a tuple that holds things that may change -/
theorem he_tupM {k : Nat} (h : HA X W es ds M (fun dvs M1 => dvs.length ≤ 1000 ∧ ∀ p, R (.m p) ((p, .tup dvs) :: M1)) Xp) : HE X W (.Tuple es k pos) ds M R Xp := he_of (pe_tup (pa_t X es)) fun n S F0 H0 F H σ I Q q x =>
  h n S F0 H0 F H σ I _ (fun vs F1 H1 M1 dvs s1 I1 o1 g1 => by
    obtain ⟨hl, g⟩ := g1
    refine ⟨by rw [o1.len]; exact Nat.le_of_lt (small1000 hl), fun p hp => ?_⟩
    exact q _ F1 _ _ (.m p) s1 (I1.newC hp (.tup o1)) rfl (g p)) x
theorem he_lst (h : HA X W es ds M (fun dvs M1 => ∃ as, AllD dvs as ∧ as.length ≤ 1000 ∧ R (.d (.lst as)) M1) Xp) : HE X W (.List es pos) ds M R Xp := he_of (pe_lst (pa_t X es)) fun n S F0 H0 F H σ I Q q x =>
  h n S F0 H0 F H σ I _ (fun vs F1 H1 M1 dvs s1 I1 o1 g1 => by
    obtain ⟨as, ha, hl, g⟩ := g1
    have r := ha.rp o1
    refine ⟨by rw [r.len]; exact Nat.le_of_lt (small1000 hl), fun p hp => ?_⟩
    have y := Ext.lay (.lst vs) I1.fh hp
    exact q _ _ _ M1 _ (s1.trans y.ff) (I1.ext y) (VOk.dat (.lst upd_same (r.mono y.ff))) g) x
/-- a list display that may change -/
theorem he_lstM (h : HA X W es ds M (fun dvs M1 => dvs.length ≤ 1000 ∧ ∀ p, R (.m p) ((p, .lst dvs) :: M1)) Xp) : HE X W (.List es pos) ds M R Xp := he_of (pe_lst (pa_t X es)) fun n S F0 H0 F H σ I Q q x =>
  h n S F0 H0 F H σ I _ (fun vs F1 H1 M1 dvs s1 I1 o1 g1 => by
    obtain ⟨hl, g⟩ := g1
    refine ⟨by rw [o1.len]; exact Nat.le_of_lt (small1000 hl), fun p hp => ?_⟩
    exact q _ F1 _ _ (.m p) s1 (I1.newC hp (.lst o1)) rfl (g p)) x

/-! ### slices -/
def HO' (X : Cx) (W : WX) (o : Option Expr) (ds : Slots) (M : Mem) (R : Option Int → Mem → Prop) (Xp : Value → Mem → Prop) : Prop := match o with
  | none => R none M
  | some e => HE X W e ds M (fun x M1 => ∃ i, x = .d (.int i) ∧ R (some i) M1) Xp
def tO (X : Cx) : Option Expr → TO
  | none => tNoPart
  | some e => tPart (tE X e)
theorem po_t (X : Cx) : ∀ o, PO X o (tO X o)
  | none => po_none
  | some e => po_some (pe_t X e)
theorem wo_t {o : Option Expr} {R : Option Int → Mem → Prop} (n : X.N = ds.map (·.1)) (h : HO' X W o ds M R Xp) {S : Addr → Prop} {F0 H0 F H : Hp} {σ : L2.St} (I : In X.K S F0 H0 F H M σ ds) (Q : Option Int → Hp → Prop)
    (q : ∀ i F' H' M', Same F F' → In X.K S F0 H0 F' H' M' σ ds → R i M' → Q i H') (x : ∀ cls F' H' M', Same F F' → In X.K S F0 H0 F' H' M' σ ds → Xp cls M' → W cls none σ H') : tO X o σ H Q := by
  cases o with
  | none => exact q none F H M (.refl _) I h
  | some e =>
    exact h n S F0 H0 F H σ I _ (fun v F1 H1 M1 dv s1 I1 o1 g1 => by
      obtain ⟨i, rfl, g⟩ := g1
      cases o1
      exact ⟨i, rfl, q (some i) F1 H1 M1 s1 I1 g⟩) x
/-- the items of a slice -/
def cutD (xs : List Dat) (lo hi : Option Int) : List Dat := (xs.drop (HT.sIx xs.length 0 lo)).take (HT.sIx xs.length xs.length hi - HT.sIx xs.length 0 lo)
theorem RpL.slice {K : PySem.W.Frag} {F : Hp} {vs : List V} {xs : List Dat} (r : RpL K F vs xs) (lo hi : Option Int) : RpL K F (cutV vs lo hi) (cutD xs lo hi) := by
  unfold cutV cutD
  rw [r.len]
  exact r.cut _ _
/-- what may be sliced -/
inductive Sld (M : Mem) : DV → Option Int → Option Int → Dat → Prop
  | lst {x : DV} {xs : List Dat} {lo hi : Option Int} (h : LOf M x xs) : Sld M x lo hi (.lst (cutD xs lo hi))
  | tup {xs : List Dat} {lo hi : Option Int} (h : ¬ (HT.sIx xs.length 0 lo = 0 ∧ HT.sIx xs.length xs.length hi = xs.length)) : Sld M (.d (.tup xs)) lo hi (.tup (cutD xs lo hi))
theorem he_sl {lo hi : Option Expr} (h : HE X W a ds M (fun x M1 => HO' X W lo ds M1 (fun i M2 => HO' X W hi ds M2 (fun j M3 => ∃ d, Sld M3 x i j d ∧ R (.d d) M3) Xp) Xp) Xp) : HE X W (.Subscript a (.Slice lo hi none p2) pos) ds M R Xp :=
  he_of (pe_slice (sl_list.or sl_tup) (pe_t X a) (po_t X lo) (po_t X hi)) fun n S F0 H0 F H σ I Q q x => h n S F0 H0 F H σ I _ (fun v F1 H1 M1 dv s1 I1 o1 g1 =>
    wo_t n g1 I1 _ (fun i F2 H2 M2 s2 I2 g2 => wo_t n g2 I2 _ (fun j F3 H3 M3 s3 I3 g3 => by
      obtain ⟨d, hd, g⟩ := g3
      have o3 := (o1.mono s2).mono s3
      have s13 := (s1.trans s2).trans s3
      cases hd with
      | lst hl =>
        obtain ⟨p, vs, rfl, hp, r⟩ := hl.get I3 o3
        refine .inl ⟨p, vs, rfl, .of hp, fun r2 hr => ?_⟩
        have y := Ext.lay (.lst (cutV vs i j)) I3.fh hr
        exact q _ _ _ M3 _ (s13.trans y.ff) (I3.ext y) (VOk.dat (.lst upd_same ((r.slice i j).mono y.ff))) g
      | tup hw =>
        cases o3 with
        | @tup _ ws _ hF r =>
          refine .inr ⟨_, _, rfl, .of (I3.fh _ _ hF), by rw [r.len]; exact hw, fun r2 hr => ?_⟩
          have y := Ext.lay (.tup (cutV ws i j)) I3.fh hr
          exact q _ _ _ M3 _ (s13.trans y.ff) (I3.ext y) (VOk.dat (.tup upd_same ((r.slice i j).mono y.ff))) g)
      fun cls F3 H3 M3 s3 I3 g3 => x cls F3 H3 M3 ((s1.trans s2).trans s3) I3 g3) fun cls F2 H2 M2 s2 I2 g2 => x cls F2 H2 M2 (s1.trans s2) I2 g2) x

/-! ### built-ins -/
def CD (K : PySem.W.Frag) (r : List V → Hp → VK → Prop) (Rc : List DV → Mem → (DV → Mem → Prop) → Prop) : Prop :=
  ∀ (S : Addr → Prop) (F0 H0 F H : Hp) (M : Mem) (σ : L2.St) (ds : Slots) (as : List DV) (vs : List V) (R : DV → Mem → Prop) (Q : VK), In K S F0 H0 F H M σ ds → VL K F vs as → Rc as M R →
    (∀ u F' H' M' dv, Same F F' → In K S F0 H0 F' H' M' σ ds → VOk K F' u dv → R dv M' → Q u H') → r vs H Q
theorem we_CB {K : PySem.W.Frag} {W : WX} {t : TA} {r : List V → Hp → VK → Prop} {Rc : List DV → Mem → (DV → Mem → Prop) → Prop} (cd : CD K r Rc) (h : Wa K W t ds M (fun as M1 => Rc as M1 R) Xp) : We K W (tCB r t) ds M R Xp := fun S F0 H0 F H σ I Q q x =>
  h S F0 H0 F H σ I _ (fun vs F1 H1 M1 dvs s1 I1 o1 g1 => cd S F0 H0 F1 H1 M1 σ ds dvs vs R Q I1 o1 g1 fun u F2 H2 M2 dv s2 I2 o2 g2 => q u F2 H2 M2 dv (s1.trans s2) I2 o2 g2) x
theorem he_B {x : Str} {id : String} {r : List V → Hp → VK → Prop} {Rc : List DV → Mem → (DV → Mem → Prop) → Prop} {V L G B : List Str} {p : Pos} (hc : CallR X (.builtin id) r) (cd : CD X.K r Rc) (k : Kx X V L G B) (m : Mm B x) (hv : bootBuiltins x = some (.builtin id))
    (h : HA X W (e :: es) ds M (fun as M1 => Rc as M1 R) Xp) (he : starEach (e :: es) X.env = (false, eval e X.env) :: starEach es X.env := by with_unfolding_all rfl) (hpl : (backTo pos (starEach es X.env)).any (·.1) = false := by with_unfolding_all rfl) : HE X W (.Call (.Name x p) (e :: es) [] pos) ds M R Xp :=
  he_of (pe_callB hc (k.bl x m.mem).1 (k.bl x m.mem).2.1 hv (pa_t X _) (k.bl x m.mem).2.2.1 (k.bl x m.mem).2.2.2 he hpl) fun n => we_CB cd (h n)
theorem he_Ty {x : Str} {id : String} {r : List V → Hp → VK → Prop} {Rc : List DV → Mem → (DV → Mem → Prop) → Prop} {V L G B : List Str} {p : Pos} (hc : CallR X (.type id) r) (cd : CD X.K r Rc) (k : Kx X V L G B) (m : Mm B x) (hv : bootBuiltins x = some (.type id))
    (h : HA X W (e :: es) ds M (fun as M1 => Rc as M1 R) Xp) (he : starEach (e :: es) X.env = (false, eval e X.env) :: starEach es X.env := by with_unfolding_all rfl) (hpl : (backTo pos (starEach es X.env)).any (·.1) = false := by with_unfolding_all rfl) : HE X W (.Call (.Name x p) (e :: es) [] pos) ds M R Xp :=
  he_of (pe_callTy hc (k.bl x m.mem).1 (k.bl x m.mem).2.1 hv (pa_t X _) (k.bl x m.mem).2.2.1 (k.bl x m.mem).2.2.2 he hpl) fun n => we_CB cd (h n)
/-- how many items a thing has -/
inductive LenD (M : Mem) : DV → Nat → Prop
  | lst {xs : List Dat} : LenD M (.d (.lst xs)) xs.length
  | tup {xs : List Dat} : LenD M (.d (.tup xs)) xs.length
  | scr {xs : List Int} : LenD M (.d (.scr xs)) xs.length
  | mu {p : Addr} {xs : List DV} {j : Nat} (h : M[j]? = some (p, .lst xs)) : LenD M (.m p) xs.length
theorem cd_len {K : PySem.W.Frag} : CD K (fun xs H Q => ∃ p ys, xs = [.ref p] ∧ (SqL K H p ys ∨ SqT K H p ys) ∧ Q (.int ys.length) H) (fun as M R => ∃ a n, as = [a] ∧ LenD M a n ∧ R (.d (.int n)) M) := by
  rintro S F0 H0 F H M σ ds as vs R Q I o ⟨a, n, rfl, hl, g⟩ q
  cases o with
  | cons o1 o2 =>
    cases o2
    have fin : ∀ {n : Nat}, R (.d (.int n)) M → Q (.int n) H := fun g => q _ F H M _ (.refl _) I (VOk.dat (.int _)) g
    cases hl with
    | lst =>
      cases o1 with
      | lst hF r =>
        refine ⟨_, _, rfl, .inl (.of (I.fh _ _ hF)), ?_⟩
        rw [r.len]
        exact fin g
    | tup =>
      cases o1 with
      | tup hF r =>
        refine ⟨_, _, rfl, .inr (.of (I.fh _ _ hF)), ?_⟩
        rw [r.len]
        exact fin g
    | scr =>
      cases o1 with
      | scr hF =>
        refine ⟨_, _, rfl, .inl (I.fh.seq hF), ?_⟩
        rw [List.length_map]
        exact fin g
    | mu h =>
      rename_i v p xs j
      have o1 : v = .ref p := o1
      subst o1
      obtain ⟨nf, o, ho, ok⟩ := I.mem _ (List.mem_of_getElem? h)
      cases ok with
      | lst l =>
        refine ⟨_, _, rfl, .inl (.of ho), ?_⟩
        rw [l.len]
        exact fin g
theorem he_len {V L G B : List Str} {p : Pos} (k : Kx X V L G B) (m : Mm B "len") (h : HA X W (e :: es) ds M (fun as M1 => ∃ a n, as = [a] ∧ LenD M1 a n ∧ R (.d (.int n)) M1) Xp)
    (he : starEach (e :: es) X.env = (false, eval e X.env) :: starEach es X.env := by with_unfolding_all rfl) (hpl : (backTo pos (starEach es X.env)).any (·.1) = false := by with_unfolding_all rfl) : HE X W (.Call (.Name "len" p) (e :: es) [] pos) ds M R Xp :=
  he_B call_len_seq cd_len k m PySem.boot_len h he hpl
/-- list(a list or tuple): a new one -/
inductive SeqD (M : Mem) : DV → List Dat → Prop
  | lst {xs : List Dat} : SeqD M (.d (.lst xs)) xs
  | tup {xs : List Dat} : SeqD M (.d (.tup xs)) xs
  | mu {p : Addr} {xs : List Dat} {j : Nat} (h : M[j]? = some (p, .lst (xs.map .d))) : SeqD M (.m p) xs
theorem SeqD.get {K : PySem.W.Frag} {S : Addr → Prop} {F0 H0 F H : Hp} {σ : L2.St} {v : V} {a : DV} {xs : List Dat} (I : In K S F0 H0 F H M σ ds) (o : VOk K F v a) (l : SeqD M a xs) : ∃ p vs, v = .ref p ∧ (H p = some (.lst vs) ∨ H p = some (.tup vs)) ∧ RpL K F vs xs := by
  cases l with
  | lst =>
    cases o with
    | lst hF r => exact ⟨_, _, rfl, .inl (I.fh _ _ hF), r⟩
  | tup =>
    cases o with
    | tup hF r => exact ⟨_, _, rfl, .inr (I.fh _ _ hF), r⟩
  | mu h =>
    have o : v = .ref _ := o
    subst o
    obtain ⟨nf, o, ho, ok⟩ := I.mem _ (List.mem_of_getElem? h)
    cases ok with
    | lst l => exact ⟨_, _, rfl, .inl ho, l.to_data⟩
theorem cd_list {K : PySem.W.Frag} : CD K (fun xs H Q => ∃ p ys, xs = [.ref p] ∧ (SqL K H p ys ∨ SqT K H p ys) ∧ ∀ l, H l = none → Q (.ref l) (upd H l (.lst ys))) (fun as M R => ∃ a xs, as = [a] ∧ SeqD M a xs ∧ R (.d (.lst xs)) M) := by
  rintro S F0 H0 F H M σ ds as vs R Q I o ⟨a, xs, rfl, hl, g⟩ q
  cases o with
  | cons o1 o2 =>
    cases o2
    obtain ⟨p, vs, rfl, hp, r⟩ := hl.get I o1
    refine ⟨p, vs, rfl, hp.imp .of .of, fun l hn => ?_⟩
    have y := Ext.lay (.lst vs) I.fh hn
    exact q _ _ _ M _ y.ff (I.ext y) (VOk.dat (.lst upd_same (r.mono y.ff))) g
theorem he_list {V L G B : List Str} {p : Pos} (k : Kx X V L G B) (m : Mm B "list") (h : HA X W (e :: es) ds M (fun as M1 => ∃ a xs, as = [a] ∧ SeqD M1 a xs ∧ R (.d (.lst xs)) M1) Xp)
    (he : starEach (e :: es) X.env = (false, eval e X.env) :: starEach es X.env := by with_unfolding_all rfl) (hpl : (backTo pos (starEach es X.env)).any (·.1) = false := by with_unfolding_all rfl) : HE X W (.Call (.Name "list" p) (e :: es) [] pos) ds M R Xp :=
  he_Ty call_list_of cd_list k m (by decide +kernel) h he hpl
/-- tuple(a list) -/
theorem cd_tuple {K : PySem.W.Frag} : CD K (fun xs H Q => ∃ p ys, xs = [.ref p] ∧ ((SqL K H p ys ∧ ∀ l, H l = none → Q (.ref l) (upd H l (.tup ys))) ∨ (SqT K H p ys ∧ Q (.ref p) H))) (fun as M R => ∃ a xs, as = [a] ∧ LOf M a xs ∧ R (.d (.tup xs)) M) := by
  rintro S F0 H0 F H M σ ds as vs R Q I o ⟨a, xs, rfl, hl, g⟩ q
  cases o with
  | cons o1 o2 =>
    cases o2
    obtain ⟨p, vs, rfl, hp, r⟩ := hl.get I o1
    refine ⟨p, vs, rfl, .inl ⟨.of hp, fun l hn => ?_⟩⟩
    have y := Ext.lay (.tup vs) I.fh hn
    exact q _ _ _ M _ y.ff (I.ext y) (VOk.dat (.tup upd_same (r.mono y.ff))) g
theorem he_tupleB {V L G B : List Str} {p : Pos} (k : Kx X V L G B) (m : Mm B "tuple") (h : HA X W (e :: es) ds M (fun as M1 => ∃ a xs, as = [a] ∧ LOf M1 a xs ∧ R (.d (.tup xs)) M1) Xp)
    (he : starEach (e :: es) X.env = (false, eval e X.env) :: starEach es X.env := by with_unfolding_all rfl) (hpl : (backTo pos (starEach es X.env)).any (·.1) = false := by with_unfolding_all rfl) : HE X W (.Call (.Name "tuple" p) (e :: es) [] pos) ds M R Xp :=
  he_Ty call_tuple_of cd_tuple k m (by decide +kernel) h he hpl
theorem cd_abs {K : PySem.W.Frag} : CD K (fun xs H Q => ∃ i, xs = [.int i] ∧ Q (.int (if i < 0 then -i else i)) H) (fun as M R => ∃ i, as = [.d (.int i)] ∧ R (.d (.int (if i < 0 then -i else i))) M) := by
  rintro S F0 H0 F H M σ ds as vs R Q I o ⟨i, rfl, g⟩ q
  cases o with
  | cons o1 o2 =>
    cases o2
    cases o1
    exact ⟨i, rfl, q _ F H M _ (.refl _) I (VOk.dat (.int _)) g⟩
theorem he_abs {V L G B : List Str} {p : Pos} (k : Kx X V L G B) (m : Mm B "abs") (h : HA X W (e :: es) ds M (fun as M1 => ∃ i, as = [.d (.int i)] ∧ R (.d (.int (if i < 0 then -i else i))) M1) Xp)
    (he : starEach (e :: es) X.env = (false, eval e X.env) :: starEach es X.env := by with_unfolding_all rfl) (hpl : (backTo pos (starEach es X.env)).any (·.1) = false := by with_unfolding_all rfl) : HE X W (.Call (.Name "abs" p) (e :: es) [] pos) ds M R Xp :=
  he_B call_abs cd_abs k m (by decide +kernel) h he hpl
inductive IntD : Dat → Int → Prop
  | int (i : Int) : IntD (.int i) i
  | bl (b : Bool) : IntD (.bl b) (if b then 1 else 0)
theorem cd_int {K : PySem.W.Frag} : CD K (fun xs H Q => (∃ i, xs = [.int i] ∧ Q (.int i) H) ∨ ∃ k, xs = [.bl k] ∧ Q (.int (if k then 1 else 0)) H) (fun as M R => ∃ d i, as = [.d d] ∧ IntD d i ∧ R (.d (.int i)) M) := by
  rintro S F0 H0 F H M σ ds as vs R Q I o ⟨d, i, rfl, hd, g⟩ q
  cases o with
  | cons o1 o2 =>
    cases o2
    cases hd with
    | int i =>
      cases o1
      exact .inl ⟨_, rfl, q _ F H M _ (.refl _) I (VOk.dat (.int _)) g⟩
    | bl b =>
      cases o1
      exact .inr ⟨_, rfl, q _ F H M _ (.refl _) I (VOk.dat (.int _)) g⟩
theorem he_intB {V L G B : List Str} {p : Pos} (k : Kx X V L G B) (m : Mm B "int") (h : HA X W (e :: es) ds M (fun as M1 => ∃ d i, as = [.d d] ∧ IntD d i ∧ R (.d (.int i)) M1) Xp)
    (he : starEach (e :: es) X.env = (false, eval e X.env) :: starEach es X.env := by with_unfolding_all rfl) (hpl : (backTo pos (starEach es X.env)).any (·.1) = false := by with_unfolding_all rfl) : HE X W (.Call (.Name "int" p) (e :: es) [] pos) ds M R Xp :=
  he_Ty call_int1 cd_int k m (by decide +kernel) h he hpl
theorem cd_max2 {K : PySem.W.Frag} : CD K (fun xs H Q => ∃ i j, xs = [.int i, .int j] ∧ Q (.int (if j > i then j else i)) H) (fun as M R => ∃ i j, as = [.d (.int i), .d (.int j)] ∧ R (.d (.int (max i j))) M) := by
  rintro S F0 H0 F H M σ ds as vs R Q I o ⟨i, j, rfl, g⟩ q
  cases o with
  | cons o1 o2 =>
    cases o2 with
    | cons o2 o3 =>
      cases o3
      cases o1
      cases o2
      refine ⟨i, j, rfl, ?_⟩
      rw [show (if j > i then j else i) = max i j from by split <;> omega]
      exact q _ F H M _ (.refl _) I (VOk.dat (.int _)) g
theorem cd_min2 {K : PySem.W.Frag} : CD K (fun xs H Q => ∃ i j, xs = [.int i, .int j] ∧ Q (.int (if j < i then j else i)) H) (fun as M R => ∃ i j, as = [.d (.int i), .d (.int j)] ∧ R (.d (.int (min i j))) M) := by
  rintro S F0 H0 F H M σ ds as vs R Q I o ⟨i, j, rfl, g⟩ q
  cases o with
  | cons o1 o2 =>
    cases o2 with
    | cons o2 o3 =>
      cases o3
      cases o1
      cases o2
      refine ⟨i, j, rfl, ?_⟩
      rw [show (if j < i then j else i) = min i j from by split <;> omega]
      exact q _ F H M _ (.refl _) I (VOk.dat (.int _)) g
theorem he_max2 {V L G B : List Str} {p : Pos} (hc : X.calm = true) (k : Kx X V L G B) (m : Mm B "max") (h : HA X W (e :: es) ds M (fun as M1 => ∃ i j, as = [.d (.int i), .d (.int j)] ∧ R (.d (.int (max i j))) M1) Xp)
    (he : starEach (e :: es) X.env = (false, eval e X.env) :: starEach es X.env := by with_unfolding_all rfl) (hpl : (backTo pos (starEach es X.env)).any (·.1) = false := by with_unfolding_all rfl) : HE X W (.Call (.Name "max" p) (e :: es) [] pos) ds M R Xp :=
  he_B (call_max2 hc) cd_max2 k m (by decide +kernel) h he hpl
theorem he_min2 {V L G B : List Str} {p : Pos} (hc : X.calm = true) (k : Kx X V L G B) (m : Mm B "min") (h : HA X W (e :: es) ds M (fun as M1 => ∃ i j, as = [.d (.int i), .d (.int j)] ∧ R (.d (.int (min i j))) M1) Xp)
    (he : starEach (e :: es) X.env = (false, eval e X.env) :: starEach es X.env := by with_unfolding_all rfl) (hpl : (backTo pos (starEach es X.env)).any (·.1) = false := by with_unfolding_all rfl) : HE X W (.Call (.Name "min" p) (e :: es) [] pos) ds M R Xp :=
  he_B (call_min2 hc) cd_min2 k m (by decide +kernel) h he hpl
/-- max(a list of ints) -/
theorem cd_maxL {K : PySem.W.Frag} : CD K (rMax K) (fun as M R => ∃ (a : DV) (ns : List Int), as = [a] ∧ LOf M a (ns.map .int) ∧ 0 < ns.length ∧ ∀ m, m ∈ ns → (∀ y, y ∈ ns → y ≤ m) → R (.d (.int m)) M) := by
  rintro S F0 H0 F H M σ ds as vs R Q I o ⟨a, ns, rfl, hl, hz, g⟩ q
  cases o with
  | cons o1 o2 =>
    cases o2
    obtain ⟨p, vs, rfl, hp, r⟩ := hl.get I o1
    have e := r.int_inv
    subst e
    exact ⟨p, ns, rfl, .of hp, hz, fun m hm hy => q _ F H M _ (.refl _) I (VOk.dat (.int _)) (g m hm hy)⟩
theorem he_maxL {V L G B : List Str} {p : Pos} (hc : X.calm = true) (k : Kx X V L G B) (m : Mm B "max") (h : HA X W (e :: es) ds M (fun as M1 => ∃ (a : DV) (ns : List Int), as = [a] ∧ LOf M1 a (ns.map .int) ∧ 0 < ns.length ∧ ∀ m, m ∈ ns → (∀ y, y ∈ ns → y ≤ m) → R (.d (.int m)) M1) Xp)
    (he : starEach (e :: es) X.env = (false, eval e X.env) :: starEach es X.env := by with_unfolding_all rfl) (hpl : (backTo pos (starEach es X.env)).any (·.1) = false := by with_unfolding_all rfl) : HE X W (.Call (.Name "max" p) (e :: es) [] pos) ds M R Xp :=
  he_B (cr_max hc) cd_maxL k m (by decide +kernel) h he hpl
theorem cd_sumL {K : PySem.W.Frag} : CD K (rSum K) (fun as M R => ∃ (a : DV) (ns : List Int), as = [a] ∧ LOf M a (ns.map .int) ∧ R (.d (.int ns.sum)) M) := by
  rintro S F0 H0 F H M σ ds as vs R Q I o ⟨a, ns, rfl, hl, g⟩ q
  cases o with
  | cons o1 o2 =>
    cases o2
    obtain ⟨p, vs, rfl, hp, r⟩ := hl.get I o1
    have e := r.int_inv
    subst e
    exact ⟨p, ns, rfl, .of hp, q _ F H M _ (.refl _) I (VOk.dat (.int _)) g⟩
theorem he_sumL {V L G B : List Str} {p : Pos} (hc : X.calm = true) (k : Kx X V L G B) (m : Mm B "sum") (h : HA X W (e :: es) ds M (fun as M1 => ∃ (a : DV) (ns : List Int), as = [a] ∧ LOf M1 a (ns.map .int) ∧ R (.d (.int ns.sum)) M1) Xp)
    (he : starEach (e :: es) X.env = (false, eval e X.env) :: starEach es X.env := by with_unfolding_all rfl) (hpl : (backTo pos (starEach es X.env)).any (·.1) = false := by with_unfolding_all rfl) : HE X W (.Call (.Name "sum" p) (e :: es) [] pos) ds M R Xp :=
  he_B (cr_sum hc) cd_sumL k m (by decide +kernel) h he hpl
end
end CS

/-! CsLoop: targets, for, comprehensions; names of a context. -/
namespace CS
open PySem L2

section
variable {X : Cx} {W : WX} {e a b c : Expr} {es : List Expr} {ds : Slots} {M : Mem} {R : DV → Mem → Prop} {Xp : Value → Mem → Prop} {pos p2 : Pos} {pn : Slots → Mem → Prop} {pr : DV → Mem → Prop} {pb pc : Slots → Mem → Prop} {px : Value → Slots → Mem → Prop}

/-! ### targets -/
/-- what a target's reading t does: the places vs alone are stored, the slots are as f says -/
structure GTS (K : PySem.W.Frag) (t : TG) (N : List Str) (vs : List Nat) (f : DV → Slots → (Slots → Prop) → Prop) : Prop where
  mono : ∀ dv ds (k k' : Slots → Prop), (∀ d, k d → k' d) → f dv ds k → f dv ds k'
  does : ∀ (S : Addr → Prop) (F0 H0 F H : Hp) (M : Mem) (σ : L2.St) (ds : Slots) (v : V) (dv : DV) (k : Slots → Prop) (Q : L2.St → Hp → Prop), ds.map (·.1) = N → In K S F0 H0 F H M σ ds → VOk K F v dv → f dv ds k →
    (∀ σ' ds', In K S F0 H0 F H M σ' ds' → ds'.map (·.1) = ds.map (·.1) → k ds' → (∀ j, j ∉ vs → σ'[j]? = σ[j]?) → Q σ' H) → t v σ H Q
structure GTSs (K : PySem.W.Frag) (t : TGs) (N : List Str) (vs : List Nat) (f : List Dat → Slots → (Slots → Prop) → Prop) : Prop where
  mono : ∀ xs ds (k k' : Slots → Prop), (∀ d, k d → k' d) → f xs ds k → f xs ds k'
  does : ∀ (S : Addr → Prop) (F0 H0 F H : Hp) (M : Mem) (σ : L2.St) (ds : Slots) (us : List V) (xs : List Dat) (k : Slots → Prop) (Q : L2.St → Hp → Prop), ds.map (·.1) = N → In K S F0 H0 F H M σ ds → RpL K F us xs → f xs ds k →
    (∀ σ' ds', In K S F0 H0 F H M σ' ds' → ds'.map (·.1) = ds.map (·.1) → k ds' → (∀ j, j ∉ vs → σ'[j]? = σ[j]?) → Q σ' H) → t us σ H Q
/-- a name at the place i -/
def fName (x : Str) (i : Nat) : DV → Slots → (Slots → Prop) → Prop := fun dv ds k => ∃ ds', Up ds x dv ds' i ∧ k ds'
theorem gs_name {K : PySem.W.Frag} {x : Str} {i : Nat} {N : List Str} : GTS K (gName i) N [i] (fName x i) :=
  ⟨fun dv ds k k' h ⟨ds', u, q⟩ => ⟨ds', u, h _ q⟩, fun S F0 H0 F H M σ ds v dv kk Q n I o ⟨ds', u, q⟩ g => g _ ds' (I.slots (u.set I.env o)) u.names q fun j hj => by
    rw [List.getElem?_set_ne (fun e => hj (by simp [e]))]⟩
theorem pg_nm {x : Str} {i : Nat} {V L G B : List Str} (k : Kx X V L G B) (m : Mm L x) (hi : X.N[i]? = some x) : PG X (.Name x pos) (gName i) := pg_name (i := i) k.nd hi (k.st x m.mem).1 (k.st x m.mem).2
/-- a tuple of targets -/
def fNil : List Dat → Slots → (Slots → Prop) → Prop := fun xs ds k => xs = [] ∧ k ds
def fCons (f : DV → Slots → (Slots → Prop) → Prop) (g : List Dat → Slots → (Slots → Prop) → Prop) : List Dat → Slots → (Slots → Prop) → Prop := fun xs ds k => ∃ x r, xs = x :: r ∧ f (.d x) ds fun ds' => g r ds' k
theorem gs_nil {K : PySem.W.Frag} {N : List Str} : GTSs K gNil N [] fNil := ⟨fun xs ds k k' h ⟨e, q⟩ => ⟨e, h _ q⟩, fun S F0 H0 F H M σ ds vs xs k Q n I r ⟨e, q⟩ g => by
  subst e
  cases r
  exact ⟨rfl, g σ ds I rfl q fun _ _ => rfl⟩⟩
theorem gs_cons {K : PySem.W.Frag} {t : TG} {u : TGs} {N : List Str} {is js : List Nat} {f : DV → Slots → (Slots → Prop) → Prop} {g : List Dat → Slots → (Slots → Prop) → Prop} (h1 : GTS K t N is f) (h2 : GTSs K u N js g) :
    GTSs K (gCons t u) N (is ++ js) (fCons f g) := by
  refine ⟨fun xs ds k k' h ⟨x, r, e, q⟩ => ⟨x, r, e, h1.mono _ _ _ _ (fun d q2 => h2.mono _ _ _ _ h q2) q⟩, fun S F0 H0 F H M σ ds vs xs k Q n I r ⟨x, r', e1, q⟩ gg => ?_⟩
  subst e1
  cases r with
  | cons r1 r2 =>
    refine ⟨_, _, rfl, h1.does S F0 H0 F H M σ ds _ _ _ _ n I (VOk.dat r1) q fun σ1 ds1 I1 n1 q1 c1 => ?_⟩
    refine h2.does S F0 H0 F H M σ1 ds1 _ _ k Q (n1.trans n) I1 r2 q1 fun σ2 ds2 I2 n2 q2 c2 => gg σ2 ds2 I2 (n2.trans n1) q2 fun j hj => ?_
    rw [c2 j (fun z => hj (List.mem_append_right _ z)), c1 j (fun z => hj (List.mem_append_left _ z))]
def fTup (n : Nat) (g : List Dat → Slots → (Slots → Prop) → Prop) : DV → Slots → (Slots → Prop) → Prop := fun dv ds k => ∃ xs, dv = .d (.tup xs) ∧ xs.length = n ∧ g xs ds k
theorem gs_tup {K : PySem.W.Frag} {u : TGs} {N : List Str} {n : Nat} {is : List Nat} {g : List Dat → Slots → (Slots → Prop) → Prop} (h : GTSs K u N is g) : GTS K (gTup K n u) N is (fTup n g) := by
  refine ⟨fun dv ds k k' hk ⟨xs, e, hl, q⟩ => ⟨xs, e, hl, h.mono _ _ _ _ hk q⟩, fun S F0 H0 F H M σ ds v dv k Q n1 I o ⟨xs, e, hl, q⟩ gg => ?_⟩
  subst e
  cases o with
  | tup hF r => exact ⟨_, _, rfl, .of (I.fh _ _ hF), by rw [r.len]; exact hl, h.does S F0 H0 F H M σ ds _ xs k Q n1 I r q gg⟩

/-! ### what is walked -/
/-- the iterator J yields xs -/
def ItD (K : PySem.W.Frag) (J : It) (F : Hp) (xs : List Dat) : Prop := ∀ F' H', Same F F' → Same F' H' → ∀ i, (i < xs.length → J.go i H') ∧ (xs.length = i → J.stop i H') ∧
  ∀ v H2, J.yld i H' v H2 → i < xs.length → ∃ F2 x, Ext F' H' F2 H2 ∧ xs[i]? = some x ∧ Rp K F2 v x
def HI (X : Cx) (W : WX) (tg iter : Expr) (ds : Slots) (M : Mem) (k : List Dat → Mem → Prop) (Xp : Value → Mem → Prop) : Prop := X.N = ds.map (·.1) → ∃ wi, PI X tg iter wi ∧
  ∀ (S : Addr → Prop) (F0 H0 F H : Hp) (σ : L2.St), In X.K S F0 H0 F H M σ ds → ∀ Q : It → Hp → Prop,
    (∀ J xs F' H' M', Same F F' → In X.K S F0 H0 F' H' M' σ ds → ItD X.K J F' xs → k xs M' → Q J H') →
    (∀ cls F' H' M', Same F F' → In X.K S F0 H0 F' H' M' σ ds → Xp cls M' → W cls none σ H') → wi σ H Q
theorem itd_list {K : PySem.W.Frag} {F : Hp} {a : Addr} {vs : List V} {xs : List Dat} (hF : F a = some (.lst vs)) (r : RpL K F vs xs) : ItD K (Itl K a) F xs := fun F' H' s1 s2 i => by
  have hH : H' a = some (.lst vs) := s2 _ _ (s1 _ _ hF)
  refine ⟨fun h => ⟨vs, vs[i]'(by rw [r.len]; exact h), .of hH, by simp⟩, fun h => ⟨vs, .of hH, by rw [r.len]; exact Nat.le_of_eq h⟩, fun v H2 ⟨e, y⟩ _ => ?_⟩
  subst e
  obtain ⟨x, hx, rx⟩ := r.getV (y vs (.of hH))
  exact ⟨F', x, .refl s2, hx, rx.mono s1⟩
theorem itd_tup {K : PySem.W.Frag} {F : Hp} {a : Addr} {vs : List V} {xs : List Dat} (hF : F a = some (.tup vs)) (r : RpL K F vs xs) : ItD K (Itt K a) F xs := fun F' H' s1 s2 i => by
  have hH : H' a = some (.tup vs) := s2 _ _ (s1 _ _ hF)
  refine ⟨fun h => ⟨vs, vs[i]'(by rw [r.len]; exact h), .of hH, by simp⟩, fun h => ⟨vs, .of hH, by rw [r.len]; exact Nat.le_of_eq h⟩, fun v H2 ⟨e, y⟩ _ => ?_⟩
  subst e
  obtain ⟨x, hx, rx⟩ := r.getV (y vs (.of hH))
  exact ⟨F', x, .refl s2, hx, rx.mono s1⟩
theorem itd_scr {K : PySem.W.Frag} {F : Hp} {a : Addr} {ns : List Int} (hF : SqL K F a (ns.map V.int)) : ItD K (Itl K a) F (ns.map Dat.int) := fun F' H' s1 s2 i => by
  have hH : SqL K H' a (ns.map V.int) := s2.seq (s1.seq hF)
  refine ⟨fun h => ?_, fun h => ⟨_, hH, by rw [List.length_map] at h ⊢; exact Nat.le_of_eq h⟩, fun v H2 ⟨e, y⟩ _ => ?_⟩
  · rw [List.length_map] at h
    exact ⟨_, .int ns[i], hH, by rw [List.getElem?_map, List.getElem?_eq_getElem h]; rfl⟩
  · subst e
    have z := y _ hH
    rw [List.getElem?_map] at z
    cases q : ns[i]? with
    | none => rw [q] at z; cases z
    | some n =>
      rw [q] at z
      have z' := Option.some.inj z
      subst z'
      exact ⟨F', .int n, .refl s2, by rw [List.getElem?_map, q] <;> rfl, .int n⟩
/-- lo, lo + 1, .. -/
def rngD (lo : Int) (n : Nat) : List Dat := (List.range n).map fun i => .int (lo + (i : Nat))
theorem itd_rng {K : PySem.W.Frag} {F : Hp} (lo : Int) (n : Nat) : ItD K (Itr lo n) F (rngD lo n) := fun F' H' s1 s2 i => by
  unfold rngD
  refine ⟨fun h => (show i < n by simpa using h), fun h => (show n ≤ i from Nat.le_of_eq (by simpa using h)), fun v H2 ⟨e, y⟩ hi => ?_⟩
  subst e
  subst y
  have hi : i < n := by simpa using hi
  exact ⟨F', .int (lo + (i : Nat)), .refl s2, by rw [List.getElem?_map, List.getElem?_range hi]; rfl, .int _⟩
theorem hi_lst {tg iter : Expr} {k : List Dat → Mem → Prop} (h : HE X W iter ds M (fun dv M1 => ∃ xs, dv = .d (.lst xs) ∧ k xs M1) Xp) : HI X W tg iter ds M k Xp := fun n => ⟨_, pi_list (pe_t X iter), fun S F0 H0 F H σ I Q q x =>
  h n S F0 H0 F H σ I _ (fun v F1 H1 M1 dv s1 I1 o1 g1 => by
    obtain ⟨xs, rfl, g⟩ := g1
    cases o1 with
    | lst hF r => exact ⟨_, rfl, ⟨_, .of (I1.fh _ _ hF)⟩, q _ xs F1 H1 M1 s1 I1 (itd_list hF r) g⟩) x⟩
theorem hi_tup {tg iter : Expr} {k : List Dat → Mem → Prop} (h : HE X W iter ds M (fun dv M1 => ∃ xs, dv = .d (.tup xs) ∧ k xs M1) Xp) : HI X W tg iter ds M k Xp := fun n => ⟨_, pi_tup (pe_t X iter), fun S F0 H0 F H σ I Q q x =>
  h n S F0 H0 F H σ I _ (fun v F1 H1 M1 dv s1 I1 o1 g1 => by
    obtain ⟨xs, rfl, g⟩ := g1
    cases o1 with
    | tup hF r => exact ⟨_, rfl, ⟨_, .of (I1.fh _ _ hF)⟩, q _ xs F1 H1 M1 s1 I1 (itd_tup hF r) g⟩) x⟩
theorem hi_scr {tg iter : Expr} {k : List Dat → Mem → Prop} (h : HE X W iter ds M (fun dv M1 => ∃ ns, dv = .d (.scr ns) ∧ k (ns.map Dat.int) M1) Xp) : HI X W tg iter ds M k Xp := fun n => ⟨_, pi_list (pe_t X iter), fun S F0 H0 F H σ I Q q x =>
  h n S F0 H0 F H σ I _ (fun v F1 H1 M1 dv s1 I1 o1 g1 => by
    obtain ⟨ns, rfl, g⟩ := g1
    cases o1 with
    | scr hF => exact ⟨_, rfl, ⟨_, I1.fh.seq hF⟩, q _ _ F1 H1 M1 s1 I1 (itd_scr hF) g⟩) x⟩
theorem hi_rng1 {tg : Expr} {k : List Dat → Mem → Prop} {V L G B : List Str} {p : Pos} (kx : Kx X V L G B) (m : Mm B "range") (h : HA X W [a] ds M (fun dvs M1 => ∃ j, dvs = [.d (.int j)] ∧ -(2 ^ 62) ≤ j ∧ j < 2 ^ 62 ∧ k (rngD 0 j.toNat) M1) Xp)
    (hs : starEach [a] X.env = [(false, eval a X.env)] := by with_unfolding_all rfl) : HI X W tg (.Call (.Name "range" p) [a] [] pos) ds M k Xp := fun n => ⟨_, pi_range1 (kx.bl _ m.mem).1 (kx.bl _ m.mem).2.1 (pa_t X [a]) hs, fun S F0 H0 F H σ I Q q x =>
  h n S F0 H0 F H σ I _ (fun vs F1 H1 M1 dvs s1 I1 o1 g1 => by
    obtain ⟨j, rfl, h1, h2, g⟩ := g1
    cases o1 with
    | cons o1 o2 =>
      cases o2
      cases o1
      exact ⟨j, rfl, h1, h2, q _ _ F1 H1 M1 s1 I1 (itd_rng 0 j.toNat) g⟩) x⟩
theorem hi_rng2 {tg : Expr} {k : List Dat → Mem → Prop} {V L G B : List Str} {p : Pos} (kx : Kx X V L G B) (m : Mm B "range")
    (h : HA X W [a, b] ds M (fun dvs M2 => ∃ i j, dvs = [.d (.int i), .d (.int j)] ∧ (-(2 ^ 62) ≤ i ∧ i < 2 ^ 62 ∧ -(2 ^ 62) ≤ j ∧ j < 2 ^ 62) ∧ k (rngD i (j - i).toNat) M2) Xp)
    (hs : starEach [a, b] X.env = [(false, eval a X.env), (false, eval b X.env)] := by with_unfolding_all rfl) (hs2 : starEach [b] X.env = [(false, eval b X.env)] := by with_unfolding_all rfl) : HI X W tg (.Call (.Name "range" p) [a, b] [] pos) ds M k Xp := fun n =>
  ⟨_, pi_range2 (kx.bl _ m.mem).1 (kx.bl _ m.mem).2.1 (pa_t X [a, b]) hs hs2, fun S F0 H0 F H σ I Q q x =>
  h n S F0 H0 F H σ I _ (fun vs F1 H1 M1 dvs s1 I1 o1 g1 => by
    obtain ⟨i, j, rfl, hb, g⟩ := g1
    cases o1 with
    | cons o1 o2 =>
      cases o2 with
      | cons o2 o3 =>
        cases o3
        cases o1
        cases o2
        exact ⟨i, j, rfl, hb, q _ _ F1 H1 M1 s1 I1 (itd_rng i (j - i).toNat) g⟩) x⟩

/-! ### for -/
theorem hs_for {iter tg : Expr} {body : List Stmt} {t : TG} {is : List Nat} {f : DV → Slots → (Slots → Prop) → Prop} (hp : PassesOwn (model X.prog X.w) X.A X.env X.xe) (hc : X.calm = true) (hgp : PG X tg t) (hg : GTS X.K t X.N is f)
    (hi : HI X W tg iter ds M (fun xs M1 => ∃ J : Nat → Slots → Mem → Prop, J 0 ds M1 ∧
      (∀ n x ds' M', xs[n]? = some x → ds'.map (·.1) = ds.map (·.1) → J n ds' M' → f (.d x) ds' fun ds2 => HSs X W body ds2 M' ⟨J (n + 1), pr, pn, J (n + 1), px⟩) ∧
      (∀ ds' M', ds'.map (·.1) = ds.map (·.1) → J xs.length ds' M' → pn ds' M')) (fun cls M1 => px cls ds M1)) (hs : ∀ x, foldedSetIterable iter X.env x = pure x := by intro _; with_unfolding_all rfl) : HS X W (.For tg iter body [] pos) ds M ⟨pn, pr, pb, pc, px⟩ := fun n => by
  obtain ⟨wi, pi, hw⟩ := hi n
  refine hs_of (ps_for hp hc pi hgp (pss_t X body) hs) (fun n S F0 H0 F H σ D I g1 g2 g3 g4 g5 => hw S F0 H0 F H σ I _ ?_ fun cls F1 H1 M1 s1 I1 q1 => g5 cls F1 H1 M1 σ ds s1 I1 rfl q1) n
  rintro J xs F1 H1 M1 s1 I1 it ⟨JJ, j0, turn, done⟩
  refine ⟨fun i m σ' H' => m = xs.length - i ∧ i ≤ xs.length ∧ ∃ F' ds' M', Same F1 F' ∧ In X.K S F0 H0 F' H' M' σ' ds' ∧ ds'.map (·.1) = ds.map (·.1) ∧ JJ i ds' M', ⟨xs.length, by simp, Nat.zero_le _, F1, ds, M1, .refl _, I1, rfl, j0⟩, ?_⟩
  rintro i m σ' H' ⟨rfl, hi, F', ds', M', s', I', n', j'⟩
  obtain ⟨i1, i2, i3⟩ := it F' H' s' I'.fh i
  by_cases hlt : i < xs.length
  · refine .inr ⟨i1 hlt, fun σ2 H2 => i + 1 ≤ xs.length ∧ ∃ F' ds' M', Same F1 F' ∧ In X.K S F0 H0 F' H2 M' σ2 ds' ∧ ds'.map (·.1) = ds.map (·.1) ∧ JJ (i + 1) ds' M', fun σ2 H2 q2 => ⟨xs.length - (i + 1), by omega, rfl, q2.1, q2.2⟩, fun y H2 yld => ?_⟩
    obtain ⟨F2, x, ex, hx, rx⟩ := i3 y H2 yld hlt
    have I2 := I'.ext ex
    refine hg.does S F0 H0 F2 H2 M' σ' ds' y _ _ _ (n'.trans n.symm) I2 (VOk.dat rx) (turn i x ds' M' hx n' j') ?_
    intro σ2 ds2 I3 n2 q2 _
    have s2 := s'.trans ex.ff
    refine q2 (n.trans (n2.trans n').symm) S F0 H0 F2 H2 σ2 _ I3 ?_ ?_ ?_ ?_ ?_
    · exact fun F3 H3 M3 σ3 ds3 s3 I3 n3 q3 => ⟨hlt, F3, ds3, M3, s2.trans s3, I3, n3.trans (n2.trans n'), q3⟩
    · exact fun v3 F3 H3 M3 σ3 ds3 dv3 s3 I3 o3 q3 => g2 v3 F3 H3 M3 σ3 ds3 dv3 ((s1.trans s2).trans s3) I3 o3 q3
    · exact fun F3 H3 M3 σ3 ds3 s3 I3 n3 q3 => g1 F3 H3 M3 σ3 ds3 ((s1.trans s2).trans s3) I3 (n3.trans (n2.trans n')) q3
    · exact fun F3 H3 M3 σ3 ds3 s3 I3 n3 q3 => ⟨hlt, F3, ds3, M3, s2.trans s3, I3, n3.trans (n2.trans n'), q3⟩
    · exact fun cls F3 H3 M3 σ3 ds3 s3 I3 n3 q3 => g5 cls F3 H3 M3 σ3 ds3 ((s1.trans s2).trans s3) I3 (n3.trans (n2.trans n')) q3
  · have e : i = xs.length := by omega
    subst e
    exact .inl ⟨i2 rfl, g1 F' H' M' σ' ds' (s1.trans s') I' n' (done ds' M' n' j')⟩

/-! ### comprehensions -/
def wipe1 : Slots → Nat → Slots
  | [], _ => []
  | (x, _) :: r, 0 => (x, .no) :: r
  | e :: r, v + 1 => e :: wipe1 r v
def wipeD (ds : Slots) : List Nat → Slots
  | [] => ds
  | v :: vs => wipe1 (wipeD ds vs) v
theorem wipe1_names : ∀ (ds : Slots) (v : Nat), (wipe1 ds v).map (·.1) = ds.map (·.1)
  | [], _ => rfl
  | (x, _) :: r, 0 => rfl
  | e :: r, v + 1 => by
    show e.1 :: (wipe1 r v).map (·.1) = e.1 :: r.map (·.1)
    rw [wipe1_names r v]
theorem wipeD_names (ds : Slots) : ∀ vs, (wipeD ds vs).map (·.1) = ds.map (·.1)
  | [] => rfl
  | v :: vs => (wipe1_names _ v).trans (wipeD_names ds vs)
theorem env_wipe1 {K : PySem.W.Frag} {F : Hp} : ∀ {σ : L2.St} {ds : Slots} (v : Nat), EnvOk K F σ ds → EnvOk K F (σ.set v none) (wipe1 ds v)
  | _, _, 0, .nil => .nil
  | _, _, _ + 1, .nil => .nil
  | _, _, 0, .cons _ r => .cons trivial r
  | _, _, v + 1, .cons h r => .cons h (env_wipe1 v r)
theorem env_wipe {K : PySem.W.Frag} {F : Hp} {σ : L2.St} {ds : Slots} (h : EnvOk K F σ ds) : ∀ vs, EnvOk K F (wipe σ vs) (wipeD ds vs)
  | [] => h
  | v :: vs => env_wipe1 v (env_wipe h vs)
theorem wipe_in {σ : L2.St} {j : Nat} : ∀ {vs : List Nat}, j ∈ vs → (wipe σ vs)[j]? = if j < σ.length then some none else none
  | v :: vs, h => by
    unfold wipe
    by_cases e : v = j
    · subst e
      rw [List.getElem?_set, if_pos rfl, wipe_length]
    · rw [List.getElem?_set_ne e]
      exact wipe_in ((List.mem_cons.mp h).resolve_left fun z => e z.symm)
theorem wipe_same {σ σ' : L2.St} {vs : List Nat} (hl : σ'.length = σ.length) (h : ∀ j, j ∉ vs → σ'[j]? = σ[j]?) : wipe σ' vs = wipe σ vs := by
  refine List.ext_getElem? fun j => ?_
  by_cases hj : j ∈ vs
  · rw [wipe_in hj, wipe_in hj, hl]
  · rw [wipe_out hj, wipe_out hj, h j hj]
theorem wipe_twice (σ : L2.St) (vs : List Nat) : wipe (wipe σ vs) vs = wipe σ vs := wipe_same (wipe_length σ vs) fun j hj => wipe_out hj
/-- what holds of the blocks of a comprehension -/
abbrev BK (X : Cx) (scope : Scope) (Pr : Cx → Prop) : Prop := ∀ (s : Shared) (H : Hp) (C : Addr) (cl : List (Str × Addr)) (fp : List Addr), Pr (X.blk s H scope (compEnvC scope cl C X.env) fp)
abbrev W0 : WX := fun _ _ _ _ => False
/-- readings that stand for one judgement in every block -/
def bE (X : Cx) (scope : Scope) (e : Expr) : TE := fun σ H Q => BK X scope fun Y => tE Y e σ H Q
def bT (X : Cx) (scope : Scope) (e : Expr) : TT := fun σ H Q => BK X scope fun Y => tT Y e σ H Q
/-- the new list D of a comprehension, so far -/
abbrev Acc (M : Mem) (D : Addr) (acc : List Dat) : Mem := M ++ [(D, .lst (acc.map DV.d))]
theorem lc_turn {K : PySem.W.Frag} {S : Addr → Prop} {F0 H0 F H : Hp} {σ : L2.St} {D : Addr} {acc : List Dat} {y : V} {d : Dat} (I : In K S F0 H0 F H (Acc M D acc) σ ds) (ry : Rp K F y d) :
    ∃ vs, H D = some (.lst vs) ∧ vs.length = acc.length ∧ In K S F0 H0 F (upd H D (.lst (vs ++ [y]))) (Acc M D (acc ++ [d])) σ ds := by
  have hm : (Acc M D acc)[M.length]? = some (D, MO.lst (acc.map DV.d)) := by simp [Acc]
  obtain ⟨nf, o, ho, ok⟩ := I.mem _ (List.mem_of_getElem? hm)
  cases ok with
  | @lst vs _ l =>
    refine ⟨vs, ho, by rw [l.len, List.length_map], ?_⟩
    have J := I.setM (m' := .lst ((acc ++ [d]).map DV.d)) hm (.lst (by rw [List.map_append]; exact VL.append l (.cons (VOk.dat ry) .nil)))
    have e : (Acc M D acc).set M.length (D, MO.lst ((acc ++ [d]).map DV.d)) = Acc M D (acc ++ [d]) := by simp [Acc]
    rw [e] at J
    exact J
/-- a made list: data from then on, or a thing that may change -/
def Dn (R : DV → Mem → Prop) (acc : List Dat) (M : Mem) : Prop := R (.d (.lst acc)) M ∨ ∀ D : Addr, R (.m D) ((D, .lst (acc.map DV.d)) :: M)
theorem we_lc {K : PySem.W.Frag} {W : WX} {t : TG} {is : List Nat} {f : DV → Slots → (Slots → Prop) → Prop} {N : List Str} {wi : TI} {tt : TT} {te : TE} {vs : List Nat} (hv : ∀ i ∈ is, i ∈ vs) (n : ds.map (·.1) = N)
    (hg : GTS K t N is f)
    (hi : ∀ (S : Addr → Prop) (F0 H0 F H : Hp) (σ : L2.St), In K S F0 H0 F H M σ ds → ∀ Q : It → Hp → Prop,
      (∀ J xs F' H' M', Same F F' → In K S F0 H0 F' H' M' σ ds → ItD K J F' xs → (xs.length ≤ 1000000 ∧ ∃ G : Nat → List Dat → Prop, G 0 [] ∧
        (∀ D i x acc, xs[i]? = some x → G i acc → f (.d x) (wipeD ds vs) fun ds2 => ds2.map (·.1) = N → Wt K W0 tt ds2 (Acc M' D acc) (fun b M2 => M2 = Acc M' D acc ∧
          if b = true then We K W0 te ds2 (Acc M' D acc) (fun dv M3 => M3 = Acc M' D acc ∧ ∃ d, dv = .d d ∧ G (i + 1) (acc ++ [d])) (fun _ _ => False) else G (i + 1) acc) (fun _ _ => False)) ∧
        ∀ acc, G xs.length acc → Dn R acc M') → Q J H') →
      (∀ cls F' H' M', Same F F' → In K S F0 H0 F' H' M' σ ds → Xp cls M' → W cls none σ H') → wi σ H Q) :
    We K W (tLc wi t tt te vs) ds M R Xp := fun S F0 H0 F H σ I Q q x => by
  refine hi S F0 H0 F H σ I _ ?_ x
  rintro J xs F1 H1 M1 s1 I1 it ⟨hz, G, g0, turn, done⟩ D hD
  have start : In K S F0 H0 F1 (upd H1 D (.lst [])) (Acc M1 D []) σ ds := I1.newM hD (.lst .nil)
  refine ⟨fun i m H' => m = xs.length - i ∧ i ≤ xs.length ∧ ∃ F' acc, Same F1 F' ∧ acc.length ≤ i ∧ In K S F0 H0 F' H' (Acc M1 D acc) σ ds ∧ G i acc, ⟨xs.length, by simp, Nat.zero_le _, F1, [], .refl _, Nat.le_refl _, start, g0⟩, ?_⟩
  rintro i m H' ⟨rfl, hle, F', acc, s', hacc, I', g'⟩
  obtain ⟨i1, i2, i3⟩ := it F' H' s' I'.fh i
  by_cases hlt : i < xs.length
  · refine .inr ⟨i1 hlt, fun H2 => ∃ F' acc, Same F1 F' ∧ acc.length ≤ i + 1 ∧ In K S F0 H0 F' H2 (Acc M1 D acc) σ ds ∧ G (i + 1) acc, fun H2 ⟨F', acc, a, b, c, d⟩ => ⟨xs.length - (i + 1), by omega, rfl, hlt, F', acc, a, b, c, d⟩, fun y H2 yld => ?_⟩
    obtain ⟨F2, xx, ex, hx, rx⟩ := i3 y H2 yld hlt
    have I2 := (I'.ext ex).slots (env_wipe (I'.ext ex).env vs)
    have s2 := s'.trans ex.ff
    refine hg.does S F0 H0 F2 H2 _ _ _ y _ _ _ ((wipeD_names ds vs).trans n) I2 (VOk.dat rx) (turn D i xx acc hx g') fun σ3 ds3 I3 n3 q3 c3 => ?_
    have hw : wipe σ3 vs = wipe σ vs := by
      rw [wipe_same (σ := wipe σ vs) (by rw [I3.env.len, I2.env.len]; exact (by have z := congrArg List.length n3; simpa using z)) (fun j hj => c3 j fun z => hj (hv j z)), wipe_twice]
    refine ⟨hw, ?_⟩
    have I3e : ∀ {F4 H4 : Hp} {M4 : Mem}, Same F2 F4 → In K S F0 H0 F4 H4 M4 σ3 ds3 → In K S F0 H0 F4 H4 M4 σ ds := fun s4 I4 => I4.slots ((I'.env.mono ex.ff).mono s4)
    refine q3 ((n3.trans (wipeD_names ds vs)).trans n) S F0 H0 F2 H2 σ3 I3 _ ?_ fun _ _ _ _ _ _ z => z.elim
    rintro b F4 H4 M4 s4 I4 ⟨rfl, g4⟩
    cases b with
    | false =>
      rw [if_neg Bool.false_ne_true] at g4 ⊢
      exact ⟨F4, acc, s2.trans s4, by omega, I3e s4 I4, g4⟩
    | true =>
      rw [if_pos rfl] at g4 ⊢
      refine g4 S F0 H0 F4 H4 σ3 I4 _ ?_ fun _ _ _ _ _ _ z => z.elim
      rintro u F5 H5 M5 dv s5 I5 o5 ⟨rfl, d, rfl, g5⟩
      obtain ⟨ws, hD5, hl5, I6⟩ := lc_turn I5 o5
      refine ⟨ws, hD5, ?_, F5, acc ++ [d], (s2.trans s4).trans s5, by rw [List.length_append, List.length_singleton]; omega, I3e (s4.trans s5) I6, g5⟩
      rw [hl5]
      have : (1000000 : Nat) < sizeLine := by decide
      omega
  · have e : i = xs.length := by omega
    subst e
    refine .inl ⟨i2 rfl, ?_⟩
    rcases done acc g' with gd | gm
    rotate_left
    · exact q (.ref D) F' H' _ (.m D) (s1.trans s') (I'.perm (List.perm_append_singleton _ _)) rfl (gm D)
    have hm : (Acc M1 D acc)[M1.length]? = some (D, MO.lst (acc.map DV.d)) := by simp [Acc]
    have nf := (I'.mem _ (List.mem_of_getElem? hm)).1
    obtain ⟨_, o, ho, ok⟩ := I'.mem _ (List.mem_of_getElem? hm)
    have n0 : H0 D = none := by
      cases z : H0 D with
      | none => rfl
      | some u =>
        obtain ⟨u', hu⟩ := I1.there D u z
        rw [hD] at hu
        cases hu
    have sF : Same F' (upd F' D o) := fun b u e => by rw [upd_ne (ne_of_none e nf)]; exact e
    have nd' := I'.nd
    cases ok with
    | @lst ws _ l =>
      have J : In K S F0 H0 (upd F' D (.lst ws)) H' M1 σ ds := by
        refine ⟨I'.env.mono sF, I'.ff.trans sF, fun b u e => ?_, fun b u e f => ?_, I'.keep, I'.there, fun e he => ?_, fun e he => I'.own e (List.mem_append_left _ he), ?_⟩
        · by_cases hb : b = D
          · subst hb
            rw [upd_same] at e
            cases e
            exact ho
          · rw [upd_ne hb] at e
            exact I'.fh b u e
        · by_cases hb : b = D
          · subst hb
            exact .inl n0
          · rw [upd_ne hb] at e
            exact I'.new b u e f
        · obtain ⟨h1, u, h2, h3⟩ := I'.mem e (List.mem_append_left _ he)
          refine ⟨?_, u, h2, h3.mono sF⟩
          have ne : e.1 ≠ D := by
            obtain ⟨_, u', hu', _⟩ := I1.mem e he
            exact ne_of_none hu' hD
          rw [upd_ne ne]
          exact h1
        · rw [List.map_append] at nd'
          exact (List.nodup_append.mp nd').1
      exact q (.ref D) _ H' M1 (.d (.lst acc)) ((s1.trans s').trans sF) J (VOk.dat (.lst upd_same (l.to_data.mono sF))) gd
theorem bk_pe (X : Cx) (scope : Scope) (e : Expr) : BK X scope fun Y => PE Y e (bE X scope e) := fun s H C cl fp => ⟨fun pins s' σ H' Q I h => h s H C cl fp pins s' I⟩
theorem bk_pt (X : Cx) (scope : Scope) (e : Expr) : BK X scope fun Y => PT Y e (bT X scope e) := fun s H C cl fp => ⟨fun pins s' σ H' Q I h => h s H C cl fp pins s' I⟩
section
variable {elt tg iter cond : Expr} {scope : Scope} {own : List (Str × Nat)} {t : TG} {is : List Nat} {f : DV → Slots → (Slots → Prop) → Prop}
/-- what is asked of the turns of a comprehension without tests -/
def Lc (X : Cx) (scope : Scope) (vs : List Nat) (f : DV → Slots → (Slots → Prop) → Prop) (elt : Expr) (ds : Slots) (R : DV → Mem → Prop) (xs : List Dat) (M1 : Mem) : Prop := xs.length ≤ 1000000 ∧ ∃ G : Nat → List Dat → Prop, G 0 [] ∧
  (∀ D i x acc, xs[i]? = some x → G i acc → f (.d x) (wipeD ds vs) fun ds2 => BK X scope fun Y => HE Y W0 elt ds2 (Acc M1 D acc) (fun dv M3 => M3 = Acc M1 D acc ∧ ∃ d, dv = .d d ∧ G (i + 1) (acc ++ [d])) (fun _ _ => False)) ∧
  ∀ acc, G xs.length acc → Dn R acc M1
theorem we_tYes {K : PySem.W.Frag} {R : Bool → Mem → Prop} (h : R true M) : Wt K W tYes ds M R Xp := fun S F0 H0 F H σ I Q q x => q true F H M (.refl _) I h
/-- a comprehension without tests, however its worth goes on -/
def HLC (X : Cx) (W : WX) (elt tg iter : Expr) (scope : Scope) (own : List (Str × Nat)) (t : TG) (ds : Slots) (M : Mem) (R : DV → Mem → Prop) (Xp : Value → Mem → Prop) : Prop := X.N = ds.map (·.1) → ∃ wi, PI X tg iter wi ∧ We X.K W (tLc wi t tYes (bE X scope elt) (own.map (·.2))) ds M R Xp
theorem hlc_of (hv : ∀ i ∈ is, i ∈ own.map (·.2)) (hg : GTS X.K t X.N is f) (hi : HI X W tg iter ds M (Lc X scope (own.map (·.2)) f elt ds R) Xp) : HLC X W elt tg iter scope own t ds M R Xp := fun n => by
  obtain ⟨wi, pi, hw⟩ := hi n
  refine ⟨wi, pi, ?_⟩
  refine we_lc (N := X.N) hv n.symm hg fun S F0 H0 F H σ I Q q x => ?_
  refine hw S F0 H0 F H σ I Q (fun J xs F1 H1 M1 s1 I1 it lc => q J xs F1 H1 M1 s1 I1 it ?_) x
  obtain ⟨hz, G, g0, turn, done⟩ := lc
  refine ⟨hz, G, g0, fun D i x acc hx g => ?_, done⟩
  refine hg.mono _ _ _ _ (fun ds2 h n2 => we_tYes ⟨rfl, ?_⟩) (turn D i x acc hx g)
  rw [if_pos rfl]
  exact fun S F0 H0 F H' σ I Q q x s H C cl fp => h s H C cl fp n2.symm S F0 H0 F H' σ I Q q x
theorem he_hlc (hc : X.calm = true) (nd : X.N.Nodup) (ok : BlkOk X.N X.env.scope scope own) (hgp : BK X scope fun Y => PG Y tg t) (h : HLC X W elt tg iter scope own t ds M R Xp) (hs : ∀ x, foldedSetIterable iter X.env x = pure x := by intro _; with_unfolding_all rfl) :
    HE X W (.ListComp elt [⟨tg, iter, [], 0⟩] scope pos) ds M R Xp := fun n => by
  obtain ⟨wi, pi, hw⟩ := h n
  exact he_of (pe_lc hc nd pi ok hgp (fun _ _ _ _ _ => pts_nil) (bk_pe X scope elt) hs) (fun _ => hw) n
theorem hs_hlc {pn : Slots → Mem → Prop} {pr : DV → Mem → Prop} {pb pc : Slots → Mem → Prop} {px : Value → Slots → Mem → Prop} {x : Str} {i : Nat} {V L G B : List Str} {p spos : Pos} (k : Kx X V L G B) (m : Mm L x) (pl : (ds.map (·.1))[i]? = some x)
    (hc : X.calm = true) (ok : BlkOk X.N X.env.scope scope own) (hgp : BK X scope fun Y => PG Y tg t) (h : HLC X W elt tg iter scope own t ds M (fun dv M1 => ∃ ds', Up ds x dv ds' i ∧ pn ds' M1) (fun cls M1 => px cls ds M1)) (hk : X.env.scope.kind = .function) (hyl : X.env.scope.names.lookup x = some .local)
    (hl : (p.line == pos.line) = true) (ha : (scope.names.any fun (n, k) => n == x && (k == .local || k == .cell)) = false)
    (hs : ∀ x, foldedSetIterable iter X.env x = pure x := by intro _; with_unfolding_all rfl) :
    HS X W (.Assign [.Name x p] (.ListComp elt [⟨tg, iter, [], 0⟩] scope pos) spos) ds M ⟨pn, pr, pb, pc, px⟩ := fun n => by
  obtain ⟨wi, pi, hw⟩ := h n
  refine hs_of (ps_setLc (i := i) hc k.nd (by rw [n]; exact pl) hyl (sw_true hk hyl hl ha) pi ok hgp (fun _ _ _ _ _ => pts_nil) (bk_pe X scope elt) hs) (fun _ S F0 H0 F H σ D I g1 g2 g3 g4 g5 => ?_) n
  exact hw S F0 H0 F H σ I _ (fun v F1 H1 M1 dv s1 I1 o1 ⟨ds', u, q1⟩ => g1 F1 H1 M1 _ ds' s1 (I1.slots (u.set I1.env o1)) u.names q1) fun cls F1 H1 M1 s1 I1 q1 => g5 cls F1 H1 M1 σ ds s1 I1 rfl q1
theorem he_lc (hc : X.calm = true) (nd : X.N.Nodup) (ok : BlkOk X.N X.env.scope scope own) (hv : ∀ i ∈ is, i ∈ own.map (·.2)) (hgp : BK X scope fun Y => PG Y tg t) (hg : GTS X.K t X.N is f)
    (hi : HI X W tg iter ds M (Lc X scope (own.map (·.2)) f elt ds R) Xp) (hs : ∀ x, foldedSetIterable iter X.env x = pure x := by intro _; with_unfolding_all rfl) : HE X W (.ListComp elt [⟨tg, iter, [], 0⟩] scope pos) ds M R Xp :=
  he_hlc hc nd ok hgp (hlc_of hv hg hi) hs
/-- with a test -/
def LcIf (X : Cx) (scope : Scope) (vs : List Nat) (f : DV → Slots → (Slots → Prop) → Prop) (cond elt : Expr) (ds : Slots) (R : DV → Mem → Prop) (xs : List Dat) (M1 : Mem) : Prop := xs.length ≤ 1000000 ∧ ∃ G : Nat → List Dat → Prop, G 0 [] ∧
  (∀ D i x acc, xs[i]? = some x → G i acc → f (.d x) (wipeD ds vs) fun ds2 => ∃ b, (BK X scope fun Y => HT Y W0 cond ds2 (Acc M1 D acc) (fun b' M2 => b' = b ∧ M2 = Acc M1 D acc) (fun _ _ => False)) ∧
    if b = true then BK X scope fun Y => HE Y W0 elt ds2 (Acc M1 D acc) (fun dv M3 => M3 = Acc M1 D acc ∧ ∃ d, dv = .d d ∧ G (i + 1) (acc ++ [d])) (fun _ _ => False) else G (i + 1) acc) ∧
  ∀ acc, G xs.length acc → Dn R acc M1
theorem he_lcIf (hc : X.calm = true) (nd : X.N.Nodup) (ok : BlkOk X.N X.env.scope scope own) (hv : ∀ i ∈ is, i ∈ own.map (·.2)) (hgp : BK X scope fun Y => PG Y tg t) (hg : GTS X.K t X.N is f)
    (hi : HI X W tg iter ds M (LcIf X scope (own.map (·.2)) f cond elt ds R) Xp) (hs : ∀ x, foldedSetIterable iter X.env x = pure x := by intro _; with_unfolding_all rfl) : HE X W (.ListComp elt [⟨tg, iter, [cond], 0⟩] scope pos) ds M R Xp := fun n => by
  obtain ⟨wi, pi, hw⟩ := hi n
  refine he_of (pe_lc hc nd pi ok hgp (fun s H C cl fp => pts_one (bk_pt X scope cond s H C cl fp)) (bk_pe X scope elt) hs) (fun n => ?_) n
  refine we_lc (N := X.N) hv n.symm hg fun S F0 H0 F H σ I Q q x => ?_
  refine hw S F0 H0 F H σ I Q (fun J xs F1 H1 M1 s1 I1 it lc => q J xs F1 H1 M1 s1 I1 it ?_) x
  obtain ⟨hz, G, g0, turn, done⟩ := lc
  refine ⟨hz, G, g0, fun D i x acc hx g => ?_, done⟩
  refine hg.mono _ _ _ _ (fun ds2 h n2 => ?_) (turn D i x acc hx g)
  obtain ⟨b, hb, he⟩ := h
  intro S F0 H0 F H' σ I Q q x s H C cl fp
  refine hb s H C cl fp n2.symm S F0 H0 F H' σ I Q ?_ x
  rintro b' F' H2 M' s' I' ⟨rfl, rfl⟩
  refine q b' F' H2 _ s' I' ⟨rfl, ?_⟩
  cases b' with
  | false =>
    rw [if_neg Bool.false_ne_true] at he ⊢
    exact he
  | true =>
    rw [if_pos rfl] at he ⊢
    exact fun S F0 H0 F H' σ I Q q x s H C cl fp => he s H C cl fp n2.symm S F0 H0 F H' σ I Q q x
end
end
end CS

/-! CsKx: the names of a context, by one look at the scope. -/
namespace CS
open PySem L2

def isLC (o : Option NameKind) : Bool := match o with
  | some .local => true
  | some .cell => true
  | _ => false
def isLCF (o : Option NameKind) : Bool := match o with
  | some .local => true
  | some .cell => true
  | some .free => true
  | _ => false
def isGI (o : Option NameKind) : Bool := match o with
  | some .globalImplicit => true
  | _ => false
def isL (o : Option NameKind) : Bool := match o with
  | some .local => true
  | _ => false
theorem lc_of {sc : Scope} {x : Str} (h : isLC (sc.names.lookup x) = true) : Loc sc x := by
  unfold isLC at h
  split at h
  · exact .inl (by assumption)
  · exact .inr (by assumption)
  · cases h
theorem lcf_of {sc : Scope} {x : Str} (h : isLCF (sc.names.lookup x) = true) : Vis sc x := by
  unfold isLCF at h
  split at h
  · exact .inl (by assumption)
  · exact .inr (.inl (by assumption))
  · exact .inr (.inr (by assumption))
  · cases h
theorem gi_of {o : Option NameKind} (h : isGI o = true) : o = some .globalImplicit := by
  unfold isGI at h
  split at h
  · rfl
  · cases h
theorem l_of {o : Option NameKind} (h : isL o = true) : o = some .local := by
  unfold isL at h
  split at h
  · rfl
  · cases h
/-- names that are plain -/
def plainN (x : Str) : Bool := !(x == ("__debug__" : Str)) && !(x == ("__classdict__" : Str)) && !(x == ("__name__" : Str))
def kxB (sc : Scope) (N V L G B BB : List Str) (all : Bool) : Bool :=
  decide N.Nodup && V.all (fun x => isLCF (sc.names.lookup x) && plainN x) && L.all (fun x => isLC (sc.names.lookup x) && (all || isL (sc.names.lookup x))) &&
    G.all (fun x => isGI (sc.names.lookup x) && plainN x) && B.all (fun x => isGI (sc.names.lookup x) && plainN x && decide (x ∈ BB))
theorem plain_of {x : Str} (h : plainN x = true) : (x == ("__debug__" : Str)) = false ∧ (x == ("__classdict__" : Str)) = false ∧ x ≠ "__name__" := by
  unfold plainN at h
  simp only [Bool.and_eq_true, Bool.not_eq_true'] at h
  exact ⟨h.1.1, h.1.2, fun e => by rw [e] at h; simp at h⟩
theorem kx_of {X : Cx} {sc : Scope} {N V L G B BB : List Str} (h : kxB sc N V L G B BB true = true) (hs : X.env.scope = sc) (hN : X.N = N) (hf : X.fn = fun _ => true) (hm : ∀ x ∈ BB, X.mg x = none) : Kx X V L G B := by
  unfold kxB at h
  simp only [Bool.and_eq_true, decide_eq_true_eq, List.all_eq_true] at h
  obtain ⟨⟨⟨⟨h1, h2⟩, h3⟩, h4⟩, h5⟩ := h
  refine ⟨by rw [hN]; exact h1, fun x hx => ?_, fun x hx => ?_, fun x hx => ?_, fun x hx => ?_⟩
  · obtain ⟨a, b⟩ := h2 x hx
    obtain ⟨b1, b2, _⟩ := plain_of b
    rw [hs]
    exact ⟨lcf_of a, b1, b2⟩
  · obtain ⟨a, b⟩ := h4 x hx
    refine ⟨?_, (plain_of b).1⟩
    show X.env.scope.names.lookup x = _
    rw [hs]
    exact gi_of a
  · obtain ⟨⟨a, b⟩, c⟩ := h5 x hx
    obtain ⟨b1, b2, b3⟩ := plain_of b
    refine ⟨?_, hm x c, b3, b1⟩
    show X.env.scope.names.lookup x = _
    rw [hs]
    exact gi_of a
  · obtain ⟨a, b⟩ := h3 x hx
    rw [hs]
    exact ⟨lc_of a, .inl (by rw [hf])⟩
/-- a comprehension's scope as its block sees it -/
def relS (sc : Scope) (scope : Scope) : Scope :=
  { scope with names := scope.names.map fun (n, k) => if (k == .free && sc.kind == .function && sc.names.lookup n == some .cell) then (n, .cell) else (n, k) }
theorem kx_blk {X : Cx} {sc scope : Scope} {N V L G B BB : List Str} (h : kxB (relS sc scope) N V L G B BB false = true) (hs : X.env.scope = sc) (hN : X.N = N) (hm : ∀ x ∈ BB, X.mg x = none) : BK X scope fun Y => Kx Y V L G B := by
  intro s H C cl fp
  have e : (X.blk s H scope (compEnvC scope cl C X.env) fp).env.scope = relS sc scope := by
    rw [← hs]
    rfl
  unfold kxB at h
  simp only [Bool.and_eq_true, decide_eq_true_eq, List.all_eq_true, Bool.false_or] at h
  obtain ⟨⟨⟨⟨h1, h2⟩, h3⟩, h4⟩, h5⟩ := h
  refine ⟨?_, fun x hx => ?_, fun x hx => ?_, fun x hx => ?_, fun x hx => ?_⟩
  · show X.N.Nodup
    rw [hN]; exact h1
  · obtain ⟨a, b⟩ := h2 x hx
    obtain ⟨b1, b2, _⟩ := plain_of b
    rw [e]
    exact ⟨lcf_of a, b1, b2⟩
  · obtain ⟨a, b⟩ := h4 x hx
    refine ⟨?_, (plain_of b).1⟩
    show (X.blk s H scope (compEnvC scope cl C X.env) fp).env.scope.names.lookup x = _
    rw [e]
    exact gi_of a
  · obtain ⟨⟨a, b⟩, c⟩ := h5 x hx
    obtain ⟨b1, b2, b3⟩ := plain_of b
    refine ⟨?_, hm x c, b3, b1⟩
    show (X.blk s H scope (compEnvC scope cl C X.env) fp).env.scope.names.lookup x = _
    rw [e]
    exact gi_of a
  · obtain ⟨a, b⟩ := h3 x hx
    rw [e]
    exact ⟨lc_of a, .inr (l_of b)⟩
theorem iteT_of {c A B : Prop} [Decidable c] (hc : c) (h : A) : if c then A else B := by rw [if_pos hc]; exact h
theorem iteF_of {c A B : Prop} [Decidable c] (hc : ¬ c) (h : B) : if c then A else B := by rw [if_neg hc]; exact h
end CS

/-! CsRules: the rules in the form that the walk uses, and a def's body. -/
namespace CS
open PySem L2

inductive Pl : Slots → Str → Nat → Prop
  | here {x : Str} {w : DV} {r : Slots} : Pl ((x, w) :: r) x 0
  | there {x y : Str} {w : DV} {r : Slots} {i : Nat} : Pl r x i → Pl ((y, w) :: r) x (i + 1)
theorem Pl.name : ∀ {ds : Slots} {x : Str} {i : Nat}, Pl ds x i → (ds.map (·.1))[i]? = some x
  | _, _, _, .here => rfl
  | _, _, _, .there h => by
    rw [List.map_cons, List.getElem?_cons_succ]
    exact h.name

section
variable {X : Cx} {W : WX} {e a b c : Expr} {es : List Expr} {ds : Slots} {M : Mem} {R : DV → Mem → Prop} {Xp : Value → Mem → Prop} {pos p2 : Pos} {V L G B : List Str}
variable {pn : Slots → Mem → Prop} {pr : DV → Mem → Prop} {pb pc : Slots → Mem → Prop} {px : Value → Slots → Mem → Prop}
theorem r_set {x : Str} {i : Nat} {p : Pos} (k : Kx X V L G B) (pl : Pl ds x i) (m : Mm L x) (h : HE X W e ds M (fun dv M1 => ∃ ds', Up ds x dv ds' i ∧ pn ds' M1) (fun cls M1 => px cls ds M1)) (hs : swapsWith e (some (.Name x p)) pos.line X.env = pure false := by with_unfolding_all rfl) :
    HS X W (.Assign [.Name x p] e pos) ds M ⟨pn, pr, pb, pc, px⟩ := fun n =>
  hs_of (ps_set (i := i) k.nd (by rw [n]; exact pl.name) (k.st x m.mem).1 (pe_t X e) hs (k.st x m.mem).2) (fun _ S F0 H0 F H σ D I g1 g2 g3 g4 g5 =>
    h n S F0 H0 F H σ I _ (fun v F1 H1 M1 dv s1 I1 o1 ⟨ds', u, q1⟩ => g1 F1 H1 M1 _ ds' s1 (I1.slots (u.set I1.env o1)) u.names q1) fun cls F1 H1 M1 s1 I1 q1 => g5 cls F1 H1 M1 σ ds s1 I1 rfl q1) n
theorem r_name {x : Str} {dv : DV} {i : Nat} (k : Kx X V L G B) (l : Lk ds x dv i) (m : Mm V x) (hd : dv ≠ .no) (h : R dv M) : HE X W (.Name x pos) ds M R Xp := he_name k l m hd h
theorem r_nameD {x : Str} {d : Dat} {i : Nat} (k : Kx X V L G B) (l : Lk ds x (.d d) i) (m : Mm V x) (h : R (.d d) M) : HE X W (.Name x pos) ds M R Xp := he_name k l m (fun z => by cases z) h
theorem r_nameM {x : Str} {d : Addr} {i : Nat} (k : Kx X V L G B) (l : Lk ds x (.m d) i) (m : Mm V x) (h : R (.m d) M) : HE X W (.Name x pos) ds M R Xp := he_name k l m (fun z => by cases z) h
/-- a module's int -/
theorem r_globI {x : Str} {i : Int} {t : Tok} (k : Kx X V L G B) (m : Mm G x) (hm : X.mg x = some (.int i t)) (h : R (.d (.int i)) M) : HE X W (.Name x pos) ds M R Xp := he_glob (v := .int i) k m hm ⟨_, rfl⟩ (fun F => VOk.dat (.int i)) h
theorem r_sub (h : HE X W a ds M (fun x M1 => HE X W b ds M1 (fun y M2 => ∃ i j, x = .d (.int i) ∧ y = .d (.int j) ∧ R (.d (.int (i - j))) M2) Xp) Xp) : HE X W (.BinOp a .Sub b pos) ds M R Xp := he_sub h
theorem r_addI (h : HE X W a ds M (fun x M1 => HE X W b ds M1 (fun y M2 => ∃ i j, x = .d (.int i) ∧ y = .d (.int j) ∧ R (.d (.int (i + j))) M2) Xp) Xp) : HE X W (.BinOp a .Add b pos) ds M R Xp := he_addI h
theorem r_mul (h : HE X W a ds M (fun x M1 => HE X W b ds M1 (fun y M2 => ∃ i j, x = .d (.int i) ∧ y = .d (.int j) ∧ CMul i j ∧ R (.d (.int (i * j))) M2) Xp) Xp) : HE X W (.BinOp a .Mult b pos) ds M R Xp := he_mul h
theorem r_mod (h : HE X W a ds M (fun x M1 => HE X W b ds M1 (fun y M2 => ∃ i j, x = .d (.int i) ∧ y = .d (.int j) ∧ 0 < j ∧ R (.d (.int (i % j))) M2) Xp) Xp) : HE X W (.BinOp a .Mod b pos) ds M R Xp := he_mod h
theorem r_fdiv (h : HE X W a ds M (fun x M1 => HE X W b ds M1 (fun y M2 => ∃ i j, x = .d (.int i) ∧ y = .d (.int j) ∧ CDiv i j ∧ R (.d (.int (i / j))) M2) Xp) Xp) : HE X W (.BinOp a .FloorDiv b pos) ds M R Xp := he_fdiv h
theorem r_pow (h : HE X W a ds M (fun x M1 => HE X W b ds M1 (fun y M2 => ∃ i j, x = .d (.int i) ∧ y = .d (.int j) ∧ CPow i j ∧ R (.d (.int (i ^ j.toNat))) M2) Xp) Xp) : HE X W (.BinOp a .Pow b pos) ds M R Xp := he_pow h
theorem r_lt (h : HE X W a ds M (fun x M1 => HE X W b ds M1 (fun y M2 => ∃ i j, x = .d (.int i) ∧ y = .d (.int j) ∧ R (.d (.bl (decide (i < j)))) M2) Xp) Xp) : HE X W (.Compare a [.Lt] [b] pos) ds M R Xp := he_lt h
theorem r_le (h : HE X W a ds M (fun x M1 => HE X W b ds M1 (fun y M2 => ∃ i j, x = .d (.int i) ∧ y = .d (.int j) ∧ R (.d (.bl (decide (i ≤ j)))) M2) Xp) Xp) : HE X W (.Compare a [.LtE] [b] pos) ds M R Xp := he_le h
theorem r_gt (h : HE X W a ds M (fun x M1 => HE X W b ds M1 (fun y M2 => ∃ i j, x = .d (.int i) ∧ y = .d (.int j) ∧ R (.d (.bl (decide (j < i)))) M2) Xp) Xp) : HE X W (.Compare a [.Gt] [b] pos) ds M R Xp := he_gt h
theorem r_ge (h : HE X W a ds M (fun x M1 => HE X W b ds M1 (fun y M2 => ∃ i j, x = .d (.int i) ∧ y = .d (.int j) ∧ R (.d (.bl (decide (j ≤ i)))) M2) Xp) Xp) : HE X W (.Compare a [.GtE] [b] pos) ds M R Xp := he_ge h
section
variable {R : Bool → Mem → Prop}
theorem t_lt (h : HE X W a ds M (fun x M1 => HE X W b ds M1 (fun y M2 => ∃ i j, x = .d (.int i) ∧ y = .d (.int j) ∧ R (decide (i < j)) M2) Xp) Xp) : HT X W (.Compare a [.Lt] [b] pos) ds M R Xp := ht_lt h
theorem t_le (h : HE X W a ds M (fun x M1 => HE X W b ds M1 (fun y M2 => ∃ i j, x = .d (.int i) ∧ y = .d (.int j) ∧ R (decide (i ≤ j)) M2) Xp) Xp) : HT X W (.Compare a [.LtE] [b] pos) ds M R Xp := ht_le h
theorem t_gt (h : HE X W a ds M (fun x M1 => HE X W b ds M1 (fun y M2 => ∃ i j, x = .d (.int i) ∧ y = .d (.int j) ∧ R (decide (j < i)) M2) Xp) Xp) : HT X W (.Compare a [.Gt] [b] pos) ds M R Xp := ht_gt h
theorem t_ge (h : HE X W a ds M (fun x M1 => HE X W b ds M1 (fun y M2 => ∃ i j, x = .d (.int i) ∧ y = .d (.int j) ∧ R (decide (j ≤ i)) M2) Xp) Xp) : HT X W (.Compare a [.GtE] [b] pos) ds M R Xp := ht_ge h
end
/-- a[i]: what stands there -/
theorem r_ix (h : HE X W a ds M (fun x M1 => HE X W b ds M1 (fun y M2 => ∃ i d, y = .d (.int i) ∧ Ixd M2 x i d ∧ R d M2) Xp) Xp) (hs : ∀ o i, subscripted b false o i = operate [o, i] (getItem o i) := by intro _ _; with_unfolding_all rfl) : HE X W (.Subscript a b pos) ds M R Xp := he_ix h hs
theorem r_add (h : HE X W a ds M (fun x M1 => HE X W b ds M1 (fun y M2 => (∃ i j, x = .d (.int i) ∧ y = .d (.int j) ∧ R (.d (.int (i + j))) M2) ∨
    (∃ xs ys, LOf M2 x xs ∧ LOf M2 y ys ∧ xs.length + ys.length ≤ sizeLine ∧ R (.d (.lst (xs ++ ys))) M2) ∨ (∃ xs ys, x = .d (.tup xs) ∧ y = .d (.tup ys) ∧ xs ≠ [] ∧ xs.length + ys.length ≤ sizeLine ∧ R (.d (.tup (xs ++ ys))) M2) ∨
    (∃ s t, x = .d (.str s) ∧ y = .d (.str t) ∧ s.length + t.length ≤ sizeLine ∧ R (.d (.str (s ++ t))) M2)) Xp) Xp) : HE X W (.BinOp a .Add b pos) ds M R Xp := he_add h
/-- a slice's part left out -/
theorem o_none {R : Option Int → Mem → Prop} (h : R none M) : HO' X W none ds M R Xp := h
theorem o_some {R : Option Int → Mem → Prop} (h : HE X W e ds M (fun x M1 => ∃ i, x = .d (.int i) ∧ R (some i) M1) Xp) : HO' X W (some e) ds M R Xp := h
end

/-- a body at its entry -/
structure Bd (X : Cx) (P : Program) (w : World) (K : PySem.W.Frag) (mg : Str → Option Value) (base : Heap) (N : List Str) (st : Stmt) (d : Nat) (E : XK) : Prop where
  prog : X.prog = P
  ww : X.w = w
  kk : X.K = K
  mm : X.mg = mg
  bb : X.base = base
  nn : X.N = N
  sc : X.env.scope = defScope st
  fn : X.fn = fun _ => true
  calm : X.calm = true
  room : Rm d X.A
  pass : PassesOwn (model X.prog X.w) X.A X.env X.xe
  stk : X.stack = X.env :: X.outer
  frm : X.env.frame = some X.env.locals
/-- what a call's end wants at «return» -/
def Rt (o : Oc) (dv : DV) (M : Mem) : Prop := match o with
  | .val d => dv = .d d
  | .new xs => ∃ (p : Addr) (i : Nat), dv = .m p ∧ M[i]? = some (p, MO.lst (xs.map DV.d))
  | .exc _ => False
theorem rt_rfl {d : Dat} {M : Mem} : Rt (.val d) (.d d) M := rfl
theorem rt_eq {d e : Dat} {M : Mem} (h : d = e) : Rt (.val e) (.d d) M := by rw [h]; rfl
section
variable {P : Program} {w : World} {K : PySem.W.Frag} {mg : Str → Option Value} {base : Heap} {x qual : Str} {st : Stmt} {f : Addr} {fd : FuncData} {N ps : List Str} {d : Nat} {Rel : List Dat → Oc → Prop}
/-- a def over data that lets nothing out -/
theorem def0 (T : Fun K x qual st f fd) (S : FnScope N ps (defScope st)) (hps : ps.length ≤ N.length) (len : ∀ as o, Rel as o → as.length = ps.length)
    (body : ∀ (X : Cx) (E : XK) (as : List Dat) (o : Oc), Bd X P w K mg base N st d E → Rel as o → HSs X (fun c dd _ H => E c dd H) (defBody st) (zipD N as) [] ⟨fun _ _ => o = .val .non, Rt o, fun _ _ => False, fun _ _ => False, fun cls _ _ => o = .exc cls⟩) :
    FnR P w K mg base CX0 (d + 1) f fd ps (spD K Rel) := def_ok T S hps len fun cdv A outer s H E as o hr h =>
  body _ E as o ⟨rfl, rfl, rfl, rfl, rfl, rfl, rfl, rfl, rfl, hr, passes_of rfl, rfl, rfl⟩ h
/-- a def over data that may raise -/
theorem defX (T : Fun K x qual st f fd) (S : FnScope N ps (defScope st)) (hps : ps.length ≤ N.length) (len : ∀ as o, Rel as o → as.length = ps.length)
    (body : ∀ (X : Cx) (E : XK) (as : List Dat) (o : Oc), Bd X P w K mg base N st d E → Takes X (fun cls d _ H => E cls d H) → Rel as o → HSs X (fun c dd _ H => E c dd H) (defBody st) (zipD N as) [] ⟨fun _ _ => o = .val .non, Rt o, fun _ _ => False, fun _ _ => False, fun cls _ _ => o = .exc cls⟩) :
    FnR P w K mg base (L2.CX P w) (d + 1) f fd ps (spD K Rel) := def_ok T S hps len fun cdv A outer s H E as o hr h =>
  body _ E as o ⟨rfl, rfl, rfl, rfl, rfl, rfl, rfl, rfl, rfl, hr, passes_of rfl, rfl, rfl⟩ (takes_of rfl rfl rfl rfl) h
end
end CS

/-! CsEq: == of nested data. -/
namespace CS
open PySem L2

mutual
def Dat.py : Dat → PyData
  | .non => .none
  | .bl b => .bool b
  | .int i => .int i
  | .str s => .str s
  | .tup xs => .tuple (Dat.pyL xs)
  | .lst xs => .list (Dat.pyL xs)
  | .scr ns => .list (ns.map .int)
  | .dct _ => .dict []
  | .exn _ => .dict []
def Dat.pyL : List Dat → List PyData
  | [] => []
  | x :: xs => Dat.py x :: Dat.pyL xs
end
mutual
/-- no dict, texts in order, at most n levels -/
def fits : Dat → Nat → Bool
  | .non, _ => true
  | .bl _, _ => true
  | .int _, _ => true
  | .str _, _ => true
  | .tup xs, n => (n != 0) && fitsL xs (n - 1)
  | .lst xs, n => (n != 0) && fitsL xs (n - 1)
  | .scr _, _ => false
  | .dct _, _ => false
  | .exn _, _ => false
def fitsL : List Dat → Nat → Bool
  | [], _ => true
  | x :: xs, n => fits x n && fitsL xs n
end
mutual
theorem fits_lay : ∀ (d : Dat) (n : Nat), fits d n = true → d.py.plain = true ∧ d.py.depth ≤ n
  | .non, n, _ => ⟨rfl, Nat.zero_le _⟩
  | .bl _, n, _ => ⟨rfl, Nat.zero_le _⟩
  | .int _, n, _ => ⟨rfl, Nat.zero_le _⟩
  | .str s, n, h => ⟨rfl, Nat.zero_le _⟩
  | .tup xs, n, h => by
    simp only [fits, Bool.and_eq_true, bne_iff_ne] at h
    obtain ⟨a, b⟩ := fits_layL xs (n - 1) h.2
    refine ⟨by simpa [Dat.py, PyData.plain] using a, ?_⟩
    simp only [Dat.py, PyData.depth]
    have := h.1
    omega
  | .lst xs, n, h => by
    simp only [fits, Bool.and_eq_true, bne_iff_ne] at h
    obtain ⟨a, b⟩ := fits_layL xs (n - 1) h.2
    refine ⟨by simpa [Dat.py, PyData.plain] using a, ?_⟩
    simp only [Dat.py, PyData.depth]
    have := h.1
    omega
theorem fits_layL : ∀ (xs : List Dat) (n : Nat), fitsL xs n = true → PyData.plainAll (Dat.pyL xs) = true ∧ PyData.depthAll (Dat.pyL xs) ≤ n
  | [], n, _ => ⟨rfl, Nat.zero_le _⟩
  | x :: xs, n, h => by
    simp only [fitsL, Bool.and_eq_true] at h
    obtain ⟨a, b⟩ := fits_lay x n h.1
    obtain ⟨c, d⟩ := fits_layL xs n h.2
    refine ⟨by simp [Dat.pyL, PyData.plainAll, a, c], ?_⟩
    simp only [Dat.pyL, PyData.depthAll]
    omega
end
theorem fitsL_all {xs : List Dat} {n : Nat} (h : ∀ x ∈ xs, fits x n = true) : fitsL xs n = true := by
  induction xs with
  | nil => rfl
  | cons x xs ih =>
    simp only [fitsL, Bool.and_eq_true]
    exact ⟨h x List.mem_cons_self, ih fun y hy => h y (List.mem_cons_of_mem _ hy)⟩
mutual
theorem fits_mono : ∀ (d : Dat) {n m : Nat}, n ≤ m → fits d n = true → fits d m = true
  | .non, _, _, _, _ => rfl
  | .bl _, _, _, _, _ => rfl
  | .int _, _, _, _, _ => rfl
  | .str s, _, _, _, h => h
  | .tup xs, n, m, l, h => by
    simp only [fits, Bool.and_eq_true, bne_iff_ne] at h ⊢
    exact ⟨by omega, fitsL_mono xs (by omega) h.2⟩
  | .lst xs, n, m, l, h => by
    simp only [fits, Bool.and_eq_true, bne_iff_ne] at h ⊢
    exact ⟨by omega, fitsL_mono xs (by omega) h.2⟩
theorem fitsL_mono : ∀ (xs : List Dat) {n m : Nat}, n ≤ m → fitsL xs n = true → fitsL xs m = true
  | [], _, _, _, _ => rfl
  | x :: xs, n, m, l, h => by
    simp only [fitsL, Bool.and_eq_true] at h ⊢
    exact ⟨fits_mono x l h.1, fitsL_mono xs l h.2⟩
end
section
variable {K : PySem.W.Frag} {F H : Hp}
mutual
theorem Rp.dp (s : Same F H) : ∀ (d : Dat) (n : Nat) (v : V), fits d n = true → Rp K F v d → Dp K H v d.py
  | .non, _, _, _, .non => .non
  | .bl _, _, _, _, .bl b => .bl b
  | .int _, _, _, _, .int i => .int i
  | .str _, _, _, _, .str x => .str x
  | .tup xs, n, _, h, .tup hF r => by
    simp only [fits, Bool.and_eq_true] at h
    exact .tup (.of (s _ _ hF)) (Rp.dpL s xs (n - 1) _ h.2 r)
  | .lst xs, n, _, h, .lst hF r => by
    simp only [fits, Bool.and_eq_true] at h
    exact .lst (.of (s _ _ hF)) (Rp.dpL s xs (n - 1) _ h.2 r)
theorem Rp.dpL (s : Same F H) : ∀ (xs : List Dat) (n : Nat) (vs : List V), fitsL xs n = true → RpL K F vs xs → DpAll K H vs (Dat.pyL xs)
  | [], _, _, _, .nil => .nil
  | x :: xs, n, _, h, .cons a r => by
    simp only [fitsL, Bool.and_eq_true] at h
    exact .cons (Rp.dp s x n _ h.1 a) (Rp.dpL s xs n _ h.2 r)
end
theorem eqv_same {d : Dat} (h : fits d 64 = true) : PyData.eqv d.py d.py = true := SeqAt.eqv_refl_plain _ (fits_lay d 64 h).1
/-- == over data, whatever the texts -/
def rEqP (K : PySem.W.Frag) (neg : Bool) : R2 := fun x y H Q => ∃ d e, Dp K H x d ∧ Dp K H y e ∧ d.plain = true ∧ e.plain = true ∧ d.depth ≤ 64 ∧ Q (.bl (if neg then !PyData.eqv d e else PyData.eqv d e)) H
theorem op_eqP {X : Cx} (hu : X.A.units + 64 < cLine) : OpR X (compareOp .Eq) (rEqP X.K false) := by
  rintro pins s σ H x y v u Q I rx ry ⟨d, e, hd, he, p1, p2, dp, q⟩
  obtain ⟨as, r1⟩ := Dp.reads I d x v hd rx
  obtain ⟨bs, r2⟩ := Dp.reads I e y u he ry
  exact SeqAt.eq_plain r1 r2 p1 p2 (by have : min d.depth e.depth ≤ d.depth := Nat.min_le_left _ _; omega) ⟨.bl _, H, I, rfl, q⟩
theorem op_neP {X : Cx} (hu : X.A.units + 64 < cLine) : OpR X (compareOp .NotEq) (rEqP X.K true) := by
  rintro pins s σ H x y v u Q I rx ry ⟨d, e, hd, he, p1, p2, dp, q⟩
  obtain ⟨as, r1⟩ := Dp.reads I d x v hd rx
  obtain ⟨bs, r2⟩ := Dp.reads I e y u he ry
  exact SeqAt.ne_plain r1 r2 p1 p2 (by have : min d.depth e.depth ≤ d.depth := Nat.min_le_left _ _; omega) ⟨.bl _, H, I, rfl, q⟩
theorem od_eqD {neg : Bool} : OD K (rEqP K neg) (fun a b M R => ∃ d e, a = .d d ∧ b = .d e ∧ fits d 64 = true ∧ fits e 64 = true ∧ R (.d (.bl (if neg then !PyData.eqv d.py e.py else PyData.eqv d.py e.py))) M) := by
  rintro S F0 H0 F H M σ ds a b v w R Q I oa ob ⟨d, e, rfl, rfl, h1, h2, h⟩ q
  exact ⟨d.py, e.py, Rp.dp I.fh d 64 v h1 oa, Rp.dp I.fh e 64 w h2 ob, (fits_lay d 64 h1).1, (fits_lay e 64 h2).1, (fits_lay d 64 h1).2, q _ F H M _ (.refl _) I (VOk.dat (.bl _)) h⟩
end
section
variable {X : Cx} {W : WX} {a b : Expr} {ds : Slots} {M : Mem} {Xp : Value → Mem → Prop} {pos : Pos} {d : Nat}
/-- the two sides are the same data -/
theorem he_eqS {R : DV → Mem → Prop} (hr : Rm d X.A) (h : HE X W a ds M (fun x M1 => HE X W b ds M1 (fun y M2 => ∃ d, x = .d d ∧ y = .d d ∧ fits d 64 = true ∧ R (.d (.bl true)) M2) Xp) Xp) : HE X W (.Compare a [.Eq] [b] pos) ds M R Xp :=
  he_cmp (op_eqP hr.units) od_eqD (he_imp h fun _ _ q => he_imp q fun _ _ ⟨d, e1, e2, f, q⟩ => ⟨d, d, e1, e2, f, f, by simp only [eqv_same f]; exact q⟩) (nomark _)
theorem he_neS {R : DV → Mem → Prop} (hr : Rm d X.A) (h : HE X W a ds M (fun x M1 => HE X W b ds M1 (fun y M2 => ∃ d, x = .d d ∧ y = .d d ∧ fits d 64 = true ∧ R (.d (.bl false)) M2) Xp) Xp) : HE X W (.Compare a [.NotEq] [b] pos) ds M R Xp :=
  he_cmp (op_neP hr.units) od_eqD (he_imp h fun _ _ q => he_imp q fun _ _ ⟨d, e1, e2, f, q⟩ => ⟨d, d, e1, e2, f, f, by simp only [eqv_same f]; exact q⟩) (nomark _)
theorem ht_eqS {R : Bool → Mem → Prop} (hr : Rm d X.A) (h : HE X W a ds M (fun x M1 => HE X W b ds M1 (fun y M2 => ∃ d, x = .d d ∧ y = .d d ∧ fits d 64 = true ∧ R true M2) Xp) Xp) : HT X W (.Compare a [.Eq] [b] pos) ds M R Xp :=
  ht_cmp (op_eqP hr.units) od_eqD (he_imp h fun _ _ q => he_imp q fun _ _ ⟨d, e1, e2, f, q⟩ => ⟨d, d, e1, e2, f, f, true, by simp only [eqv_same f]; rfl, q⟩) (nomark _)
theorem ht_neS {R : Bool → Mem → Prop} (hr : Rm d X.A) (h : HE X W a ds M (fun x M1 => HE X W b ds M1 (fun y M2 => ∃ d, x = .d d ∧ y = .d d ∧ fits d 64 = true ∧ R false M2) Xp) Xp) : HT X W (.Compare a [.NotEq] [b] pos) ds M R Xp :=
  ht_cmp (op_neP hr.units) od_eqD (he_imp h fun _ _ q => he_imp q fun _ _ ⟨d, e1, e2, f, q⟩ => ⟨d, d, e1, e2, f, f, false, by simp only [eqv_same f]; rfl, q⟩) (nomark _)
end
end CS

/-! CsMore: isinstance against built-in types, join. -/
namespace CS
open PySem L2
inductive TyD : Dat → String → Prop
  | non : TyD .non "NoneType"
  | int (i : Int) : TyD (.int i) "int"
  | bl (i : Bool) : TyD (.bl i) "bool"
  | str (i : Str) : TyD (.str i) "str"
  | lst (i : List Dat) : TyD (.lst i) "list"
  | tup (i : List Dat) : TyD (.tup i) "tuple"
  | dct (i : List (Key × Dat)) : TyD (.dct i) "dict"
section
variable {X : Cx} {W : WX} {e a b o : Expr} {es : List Expr} {ds : Slots} {M : Mem} {R : DV → Mem → Prop} {Xp : Value → Mem → Prop} {pos p2 p3 apos : Pos} {V L G B : List Str}
theorem tyx_of {K : PySem.W.Frag} {F H : Hp} {v : L2.V} {d : Dat} {n : String} (s : Same F H) (h : TyD d n) (r : Rp K F v d) : TyX K H v (.type n) := by
  cases h with
  | non => cases r; exact .base .non
  | int i => cases r; exact .base (.int i)
  | bl i => cases r; exact .base (.bl i)
  | str i => cases r; exact .base (.str i)
  | lst i =>
    cases r with
    | lst hF _ => exact .base (.lst (s _ _ hF))
  | tup i =>
    cases r with
    | tup hF _ => exact .base (.tup (s _ _ hF))
  | dct i =>
    cases r with
    | dct hF _ => exact .fDict (s _ _ hF)
theorem r_isi {T : String} (k : Kx X V L G B) (m : Mm B "isinstance") (m2 : Mm B (Str.ofString T)) (hv : bootBuiltins (Str.ofString T) = some (.type T)) (h : HE X W e ds M (fun x M1 => ∃ d nm b, x = .d d ∧ TyD d nm ∧ kitB nm T = some b ∧ R (.d (.bl b)) M1) Xp)
    (he : starEach (e :: [.Name (Str.ofString T) p3]) X.env = (false, eval e X.env) :: starEach [.Name (Str.ofString T) p3] X.env := by with_unfolding_all rfl) (hpl : (backTo pos (starEach [.Name (Str.ofString T) p3] X.env)).any (·.1) = false := by with_unfolding_all rfl) :
    HE X W (.Call (.Name "isinstance" p2) [e, .Name (Str.ofString T) p3] [] pos) ds M R Xp :=
  he_of (pe_callB call_isi (k.bl _ m.mem).1 (k.bl _ m.mem).2.1 (by decide +kernel) (pa_cons (pe_t X e) (pa_cons (pe_bltn (v := .ty T) (k.bl _ m2.mem).1 (k.bl _ m2.mem).2.1 hv rfl (k.bl _ m2.mem).2.2.1 (k.bl _ m2.mem).2.2.2) pa_nil rfl) he) (k.bl _ m.mem).2.2.1 (k.bl _ m.mem).2.2.2 he hpl)
    fun n S F0 H0 F H σ I Q q x => h n S F0 H0 F H σ I _ (fun v F1 H1 M1 dv s1 I1 o1 g1 => by
      obtain ⟨d, nm, b, rfl, ht, hk, g⟩ := g1
      exact ⟨v, .ty T, .type nm, .type T, b, rfl, .ty T, tyx_of I1.fh ht o1, kit_ty hk, q _ F1 H1 M1 _ s1 I1 (VOk.dat (.bl b)) g⟩) x
/-- sep.join(a list of texts) -/
theorem r_join (h : HE X W o ds M (fun x M1 => ∃ a : Str, x = .d (.str a) ∧ HE X W e ds M1 (fun y M2 => ∃ ys : List Str, LOf M2 y (ys.map .str) ∧ (ys.map (·.length)).sum + ys.length * a.length ≤ 16777216 ∧ R (.d (.str (Txt.join a ys))) M2) Xp) Xp)
    (hs : starEach [e] X.env = [(false, eval e X.env)] := by with_unfolding_all rfl) (hbase : attributeBase o "join" X.env (eval o X.env) = eval o X.env := by with_unfolding_all rfl) (hline : (apos.endLine == pos.line) = true := by with_unfolding_all rfl) :
    HE X W (.Call (.Attribute o "join" apos) [e] [] pos) ds M R Xp := he_of (pe_join (pe_t X o) (pe_t X e) hs hbase hline) fun n S F0 H0 F H σ I Q q x =>
  h n S F0 H0 F H σ I _ (fun v F1 H1 M1 dv s1 I1 o1 g1 => by
    obtain ⟨a, rfl, g⟩ := g1
    cases o1
    refine ⟨⟨a, rfl⟩, g n S F0 H0 F1 H1 σ I1 _ (fun w F2 H2 M2 dw s2 I2 o2 g2 => ?_) fun cls F2 H2 M2 s2 I2 g2 => x cls F2 H2 M2 (s1.trans s2) I2 g2⟩
    obtain ⟨ys, hl, hz, g⟩ := g2
    obtain ⟨p, vs, rfl, hp, r⟩ := hl.get I2 o2
    have e := r.str_inv
    subst e
    exact ⟨a, p, ys, rfl, rfl, .inl (.of hp), hz, q _ F2 H2 M2 _ (s1.trans s2) I2 (VOk.dat (.str _)) g⟩) x
end
end CS

/-! CsStep: one step of the walk, found by instances. -/
namespace CS
open PySem L2

/-- to show g it is enough to show n -/
class Step (g : Prop) (n : outParam Prop) : Prop where
  imp : n → g

/-! ### forms of expressions -/
class NS (e : Expr) : Prop where
  h : ∀ es env, starEach (e :: es) env = (false, eval e env) :: starEach es env
instance {a b} : NS (.Name a b) := ⟨fun _ _ => rfl⟩
instance {a b c} : NS (.Constant a b c) := ⟨fun _ _ => rfl⟩
instance {a b c d} : NS (.BinOp a b c d) := ⟨fun _ _ => rfl⟩
instance {a b c} : NS (.UnaryOp a b c) := ⟨fun _ _ => rfl⟩
instance {a b c} : NS (.BoolOp a b c) := ⟨fun _ _ => rfl⟩
instance {a b c d} : NS (.Compare a b c d) := ⟨fun _ _ => rfl⟩
instance {a b c d} : NS (.Call a b c d) := ⟨fun _ _ => rfl⟩
instance {a b c} : NS (.Attribute a b c) := ⟨fun _ _ => rfl⟩
instance {a b c} : NS (.Subscript a b c) := ⟨fun _ _ => rfl⟩
instance {a b} : NS (.List a b) := ⟨fun _ _ => rfl⟩
instance {a b c} : NS (.Tuple a b c) := ⟨fun _ _ => rfl⟩
instance {a b c} : NS (.Dict a b c) := ⟨fun _ _ => rfl⟩
instance {a b c d} : NS (.ListComp a b c d) := ⟨fun _ _ => rfl⟩
class NSs (es : List Expr) : Prop where
  h : ∀ env, (starEach es env).all (fun p => !p.1) = true
instance : NSs [] := ⟨fun _ => rfl⟩
instance {e : Expr} {es : List Expr} [a : NS e] [b : NSs es] : NSs (e :: es) := ⟨fun env => by rw [a.h, List.all_cons, b.h]; rfl⟩
theorem NSs.back {es : List Expr} (h : NSs es) (pos : Pos) (env : Env) : (backTo pos (starEach es env)).any (·.1) = false := by
  have q := h.h env
  generalize starEach es env = l at q
  induction l with
  | nil => rfl
  | cons p l ih =>
    rw [List.all_cons, Bool.and_eq_true] at q
    have ih' := ih q.2
    unfold backTo at ih' ⊢
    rw [List.map_cons, List.any_cons, ih', Bool.or_false]
    simpa using q.1
class NC (e : Expr) : Prop where
  h : ∀ t l env, swapsWith e t l env = pure false
instance {a b} : NC (.Name a b) := ⟨fun _ _ _ => rfl⟩
instance {a b c} : NC (.Constant a b c) := ⟨fun _ _ _ => rfl⟩
instance {a b c d} : NC (.BinOp a b c d) := ⟨fun _ _ _ => rfl⟩
instance {a b c} : NC (.UnaryOp a b c) := ⟨fun _ _ _ => rfl⟩
instance {a b c} : NC (.BoolOp a b c) := ⟨fun _ _ _ => rfl⟩
instance {a b c d} : NC (.Compare a b c d) := ⟨fun _ _ _ => rfl⟩
instance {a b c d} : NC (.Call a b c d) := ⟨fun _ _ _ => rfl⟩
instance {a b c} : NC (.Attribute a b c) := ⟨fun _ _ _ => rfl⟩
instance {a b c} : NC (.Subscript a b c) := ⟨fun _ _ _ => rfl⟩
instance {a b} : NC (.List a b) := ⟨fun _ _ _ => rfl⟩
instance {a b c} : NC (.Tuple a b c) := ⟨fun _ _ _ => rfl⟩
instance {a b c} : NC (.Dict a b c) := ⟨fun _ _ _ => rfl⟩
class PT' (e : Expr) : Prop where
  h : ∀ env whole, isTrue e env whole = (do let v ← whole; standAt e.pos; holding [v] (truthy v))
instance {a b} : PT' (.Name a b) := ⟨fun _ _ => rfl⟩
instance {a b c d} : PT' (.Call a b c d) := ⟨fun _ _ => rfl⟩
instance {a b c} : PT' (.Attribute a b c) := ⟨fun _ _ => rfl⟩
instance {a b c} : PT' (.Subscript a b c) := ⟨fun _ _ => rfl⟩
class PX' (e : Expr) : Prop where
  h : ∀ o i, subscripted e false o i = operate [o, i] (getItem o i)
instance {a b} : PX' (.Name a b) := ⟨fun _ _ => rfl⟩
instance {a b c} : PX' (.Constant a b c) := ⟨fun _ _ => rfl⟩
instance {a b c d} : PX' (.BinOp a b c d) := ⟨fun _ _ => rfl⟩
instance {a b c} : PX' (.UnaryOp a b c) := ⟨fun _ _ => rfl⟩
instance {a b c d} : PX' (.Call a b c d) := ⟨fun _ _ => rfl⟩
instance {a b c} : PX' (.Subscript a b c) := ⟨fun _ _ => rfl⟩
instance {a b c} : PX' (.Attribute a b c) := ⟨fun _ _ => rfl⟩
class Few (es : List Expr) (n : Nat) : Prop where
  h : es.length ≤ n
instance {n : Nat} : Few [] n := ⟨Nat.zero_le _⟩
instance {e : Expr} {es : List Expr} {n : Nat} [a : Few es n] : Few (e :: es) (n + 1) := ⟨Nat.succ_le_succ a.h⟩

/-! ### looking up -/
class LkC (ds : Slots) (x : Str) (dv : outParam DV) : Prop where
  h : ∃ i, Lk ds x dv i
instance (priority := high) {x : Str} {v : DV} {r : Slots} : LkC ((x, v) :: r) x v := ⟨0, .here⟩
instance {x y : Str} {v w : DV} {r : Slots} [a : LkC r x v] : LkC ((y, w) :: r) x v := ⟨a.h.elim fun i h => ⟨i + 1, .there h⟩⟩
class UpC (ds : Slots) (x : Str) (dv : DV) (i : Nat) (es : outParam Slots) : Prop where
  h : Up ds x dv es i
instance (priority := high) {x : Str} {v w : DV} {r : Slots} : UpC ((x, w) :: r) x v 0 ((x, v) :: r) := ⟨.here⟩
instance {x y : Str} {v w : DV} {r s : Slots} {i : Nat} [a : UpC r x v i s] : UpC ((y, w) :: r) x v (i + 1) ((y, w) :: s) := ⟨.there a.h⟩
class PlC (ds : Slots) (x : Str) (i : outParam Nat) : Prop where
  h : Pl ds x i
instance (priority := high) {x : Str} {w : DV} {r : Slots} : PlC ((x, w) :: r) x 0 := ⟨.here⟩
instance {x y : Str} {w : DV} {r : Slots} {i : Nat} [a : PlC r x i] : PlC ((y, w) :: r) x (i + 1) := ⟨.there a.h⟩
class MmC (l : List Str) (x : Str) : Prop where
  h : Mm l x
instance (priority := high) {x : Str} {r : List Str} : MmC (x :: r) x := ⟨.here⟩
instance {x y : Str} {r : List Str} [a : MmC r x] : MmC (y :: r) x := ⟨.there a.h⟩
/-- the names of a context, as an instance -/
class Kc (X : Cx) (V L G B : outParam (List Str)) : Prop where
  k : Kx X V L G B
class Rc (X : Cx) : Prop where
  h : ∃ d, Rm d X.A
class Cc (X : Cx) : Prop where
  h : X.calm = true
class AtC (xs : List Dat) (n : Nat) (d : outParam Dat) : Prop where
  h : xs[n]? = some d
instance (priority := high) {d : Dat} {xs : List Dat} : AtC (d :: xs) 0 d := ⟨rfl⟩
instance {d e : Dat} {xs : List Dat} {n : Nat} [a : AtC xs n d] : AtC (e :: xs) (n + 1) d := ⟨by rw [List.getElem?_cons_succ]; exact a.h⟩
class AllC (l : List DV) (r : outParam (List Dat)) : Prop where
  h : AllD l r
instance : AllC [] [] := ⟨.nil⟩
instance {d : Dat} {l : List DV} {r : List Dat} [a : AllC l r] : AllC (.d d :: l) (d :: r) := ⟨.cons a.h⟩

section
variable {X : Cx} {W : WX} {e a b c o : Expr} {es : List Expr} {ds : Slots} {M : Mem} {R : DV → Mem → Prop} {Xp : Value → Mem → Prop} {pos p2 apos : Pos} {V L G B : List Str}
variable {pn : Slots → Mem → Prop} {pr : DV → Mem → Prop} {pb pc : Slots → Mem → Prop} {px : Value → Slots → Mem → Prop}

/-! ### names and constants -/
instance {x : Str} {d : Dat} [k : Kc X V L G B] [l : LkC ds x (.d d)] [m : MmC V x] : Step (HE X W (.Name x pos) ds M R Xp) (R (.d d) M) := ⟨fun h => l.h.elim fun i l => r_nameD k.k l m.h h⟩
instance {x : Str} {d : Addr} [k : Kc X V L G B] [l : LkC ds x (.m d)] [m : MmC V x] : Step (HE X W (.Name x pos) ds M R Xp) (R (.m d) M) := ⟨fun h => l.h.elim fun i l => r_nameM k.k l m.h h⟩
instance {i : Int} {j : Nat} : Step (HE X W (.Constant (.int i) j pos) ds M R Xp) (R (.d (.int i)) M) := ⟨he_int⟩
instance {i : Str} {j : Nat} : Step (HE X W (.Constant (.str i) j pos) ds M R Xp) (R (.d (.str i)) M) := ⟨he_str⟩
instance {i : Bool} {j : Nat} : Step (HE X W (.Constant (.bool i) j pos) ds M R Xp) (R (.d (.bl i)) M) := ⟨he_bool⟩
instance {j : Nat} : Step (HE X W (.Constant .none j pos) ds M R Xp) (R (.d .non) M) := ⟨he_none⟩
/-- a constant of the module -/
class GcI (X : Cx) (x : Str) (i : outParam Int) : Prop where
  h : ∃ t, X.mg x = some (.int i t)
instance (priority := low) {x : Str} {i : Int} [k : Kc X V L G B] [m : MmC G x] [g : GcI X x i] : Step (HE X W (.Name x pos) ds M R Xp) (R (.d (.int i)) M) := ⟨fun h => g.h.elim fun t hm => r_globI k.k m.h hm h⟩

/-! ### operators -/
def I2 (x y : DV) (k : Int → Int → Prop) : Prop := ∃ i j, x = .d (.int i) ∧ y = .d (.int j) ∧ k i j
instance {i j : Int} {k : Int → Int → Prop} : Step (I2 (.d (.int i)) (.d (.int j)) k) (k i j) := ⟨fun h => ⟨i, j, rfl, rfl, h⟩⟩
instance : Step (HE X W (.BinOp a .Sub b pos) ds M R Xp) (HE X W a ds M (fun x M1 => HE X W b ds M1 (fun y M2 => I2 x y fun i j => R (.d (.int (i - j))) M2) Xp) Xp) := ⟨r_sub⟩
instance : Step (HE X W (.BinOp a .Mod b pos) ds M R Xp) (HE X W a ds M (fun x M1 => HE X W b ds M1 (fun y M2 => I2 x y fun i j => 0 < j ∧ R (.d (.int (i % j))) M2) Xp) Xp) := ⟨r_mod⟩
/-- floor division by anything but nought -/
def CDivF (_ j : Int) : Prop := j ≠ 0 ∧ j.natAbs < 2 ^ 64
theorem op_fdivF : OpR X (binaryOp .FloorDiv) (rI CDivF fun i j => .int (i.fdiv j)) := opI fun i j _ _ _ _ _ hc q => PyProof.Rows.floordiv_int hc.1 q (.inl (PyProof.noPylong_of_log2 (Nat.lt_of_lt_of_le ((Nat.log2_lt (by have := hc.1; omega)).mpr hc.2) (by decide))))
def DivP (i j : Int) (k : Int → Prop) : Prop := CDivF i j ∧ k (i.fdiv j)
theorem divS {i j : Int} {k : Int → Prop} (h : CDiv i j) (q : k (i / j)) : DivP i j k := by
  have h1 : 0 < j := h.1
  have h2 : j < 1073741824 := h.2
  exact ⟨⟨by omega, by omega⟩, by rw [Int.fdiv_eq_ediv_of_nonneg i (by omega)]; exact q⟩
theorem r_fdivP (h : HE X W a ds M (fun x M1 => HE X W b ds M1 (fun y M2 => I2 x y fun i j => DivP i j fun z => R (.d (.int z)) M2) Xp) Xp) : HE X W (.BinOp a .FloorDiv b pos) ds M R Xp :=
  he_bin op_fdivF (od_I fun F i j => .int _) (he_imp h fun _ _ q => he_imp q fun _ _ ⟨i, j, e1, e2, c, k⟩ => ⟨i, j, e1, e2, c, k⟩)
instance : Step (HE X W (.BinOp a .FloorDiv b pos) ds M R Xp) (HE X W a ds M (fun x M1 => HE X W b ds M1 (fun y M2 => I2 x y fun i j => DivP i j fun z => R (.d (.int z)) M2) Xp) Xp) := ⟨r_fdivP⟩
instance : Step (HE X W (.BinOp a .Pow b pos) ds M R Xp) (HE X W a ds M (fun x M1 => HE X W b ds M1 (fun y M2 => I2 x y fun i j => CPow i j ∧ R (.d (.int (i ^ j.toNat))) M2) Xp) Xp) := ⟨r_pow⟩
/-- a * b: ints -/
def MulP (x y : DV) (M : Mem) (R : DV → Mem → Prop) : Prop := (∃ i j, x = .d (.int i) ∧ y = .d (.int j) ∧ CMul i j ∧ R (.d (.int (i * j))) M) ∨ ∃ xs k, LOf M x xs ∧ y = .d (.int k) ∧ -(2 ^ 63) ≤ k ∧ k < 2 ^ 63 ∧ xs.length * k.toNat ≤ sizeLine ∧ R (.d (.lst (List.replicate k.toNat xs).flatten)) M
instance : Step (HE X W (.BinOp a .Mult b pos) ds M R Xp) (HE X W a ds M (fun x M1 => HE X W b ds M1 (fun y M2 => MulP x y M2 R) Xp) Xp) :=
  ⟨fun h => he_bin (OpR.or op_mul op_rep) ((od_I fun F i j => .int _).or od_rep) h⟩
instance {i j : Int} : Step (MulP (.d (.int i)) (.d (.int j)) M R) (CMul i j ∧ R (.d (.int (i * j))) M) := ⟨fun h => .inl ⟨i, j, rfl, rfl, h⟩⟩
instance {xs : List Dat} {k : Int} : Step (MulP (.d (.lst xs)) (.d (.int k)) M R) ((-(2 ^ 63) ≤ k ∧ k < 2 ^ 63 ∧ xs.length * k.toNat ≤ sizeLine) ∧ R (.d (.lst (List.replicate k.toNat xs).flatten)) M) := ⟨fun h => .inr ⟨xs, k, .dat, rfl, h.1.1, h.1.2.1, h.1.2.2, h.2⟩⟩
/-- a + b -/
def AddP (x y : DV) (M : Mem) (R : DV → Mem → Prop) : Prop := (∃ i j, x = .d (.int i) ∧ y = .d (.int j) ∧ R (.d (.int (i + j))) M) ∨
    (∃ xs ys, LOf M x xs ∧ LOf M y ys ∧ xs.length + ys.length ≤ sizeLine ∧ R (.d (.lst (xs ++ ys))) M) ∨ (∃ xs ys, x = .d (.tup xs) ∧ y = .d (.tup ys) ∧ xs ≠ [] ∧ xs.length + ys.length ≤ sizeLine ∧ R (.d (.tup (xs ++ ys))) M) ∨
    (∃ s t, x = .d (.str s) ∧ y = .d (.str t) ∧ s.length + t.length ≤ sizeLine ∧ R (.d (.str (s ++ t))) M)
instance : Step (HE X W (.BinOp a .Add b pos) ds M R Xp) (HE X W a ds M (fun x M1 => HE X W b ds M1 (fun y M2 => AddP x y M2 R) Xp) Xp) := ⟨r_add⟩
instance {i j : Int} : Step (AddP (.d (.int i)) (.d (.int j)) M R) (R (.d (.int (i + j))) M) := ⟨fun h => .inl ⟨i, j, rfl, rfl, h⟩⟩
instance {xs ys : List Dat} : Step (AddP (.d (.lst xs)) (.d (.lst ys)) M R) (xs.length + ys.length ≤ sizeLine ∧ R (.d (.lst (xs ++ ys))) M) := ⟨fun h => .inr (.inl ⟨xs, ys, .dat, .dat, h⟩)⟩
instance {x : Dat} {xs ys : List Dat} : Step (AddP (.d (.tup (x :: xs))) (.d (.tup ys)) M R) ((x :: xs).length + ys.length ≤ sizeLine ∧ R (.d (.tup (x :: xs ++ ys))) M) := ⟨fun h => .inr (.inr (.inl ⟨x :: xs, ys, rfl, rfl, by simp, h⟩))⟩
instance {s t : Str} : Step (AddP (.d (.str s)) (.d (.str t)) M R) (s.length + t.length ≤ sizeLine ∧ R (.d (.str (s ++ t))) M) := ⟨fun h => .inr (.inr (.inr ⟨s, t, rfl, rfl, h⟩))⟩
def I1 (x : DV) (k : Int → Prop) : Prop := ∃ i, x = .d (.int i) ∧ k i
instance {i : Int} {k : Int → Prop} : Step (I1 (.d (.int i)) k) (k i) := ⟨fun h => ⟨i, rfl, h⟩⟩
instance : Step (HE X W (.UnaryOp .USub a pos) ds M R Xp) (HE X W a ds M (fun x M1 => I1 x fun i => R (.d (.int (-i))) M1) Xp) := ⟨he_neg⟩

/-! ### comparisons -/
instance : Step (HE X W (.Compare a [.Lt] [b] pos) ds M R Xp) (HE X W a ds M (fun x M1 => HE X W b ds M1 (fun y M2 => I2 x y fun i j => R (.d (.bl (decide (i < j)))) M2) Xp) Xp) := ⟨r_lt⟩
instance : Step (HE X W (.Compare a [.LtE] [b] pos) ds M R Xp) (HE X W a ds M (fun x M1 => HE X W b ds M1 (fun y M2 => I2 x y fun i j => R (.d (.bl (decide (i ≤ j)))) M2) Xp) Xp) := ⟨r_le⟩
instance : Step (HE X W (.Compare a [.Gt] [b] pos) ds M R Xp) (HE X W a ds M (fun x M1 => HE X W b ds M1 (fun y M2 => I2 x y fun i j => R (.d (.bl (decide (j < i)))) M2) Xp) Xp) := ⟨r_gt⟩
instance : Step (HE X W (.Compare a [.GtE] [b] pos) ds M R Xp) (HE X W a ds M (fun x M1 => HE X W b ds M1 (fun y M2 => I2 x y fun i j => R (.d (.bl (decide (j ≤ i)))) M2) Xp) Xp) := ⟨r_ge⟩
instance {R : Bool → Mem → Prop} : Step (HT X W (.Compare a [.Lt] [b] pos) ds M R Xp) (HE X W a ds M (fun x M1 => HE X W b ds M1 (fun y M2 => I2 x y fun i j => R (decide (i < j)) M2) Xp) Xp) := ⟨t_lt⟩
instance {R : Bool → Mem → Prop} : Step (HT X W (.Compare a [.LtE] [b] pos) ds M R Xp) (HE X W a ds M (fun x M1 => HE X W b ds M1 (fun y M2 => I2 x y fun i j => R (decide (i ≤ j)) M2) Xp) Xp) := ⟨t_le⟩
instance {R : Bool → Mem → Prop} : Step (HT X W (.Compare a [.Gt] [b] pos) ds M R Xp) (HE X W a ds M (fun x M1 => HE X W b ds M1 (fun y M2 => I2 x y fun i j => R (decide (j < i)) M2) Xp) Xp) := ⟨t_gt⟩
instance {R : Bool → Mem → Prop} : Step (HT X W (.Compare a [.GtE] [b] pos) ds M R Xp) (HE X W a ds M (fun x M1 => HE X W b ds M1 (fun y M2 => I2 x y fun i j => R (decide (j ≤ i)) M2) Xp) Xp) := ⟨t_ge⟩
def EqP (x y : DV) (k : Bool → Prop) : Prop := ∃ b, SEq x y b ∧ k b
instance {i j : Int} {k : Bool → Prop} : Step (EqP (.d (.int i)) (.d (.int j)) k) (k (decide (i = j))) := ⟨fun h => ⟨_, .int i j, h⟩⟩
instance {i j : Str} {k : Bool → Prop} : Step (EqP (.d (.str i)) (.d (.str j)) k) (k (decide (i = j))) := ⟨fun h => ⟨_, .str i j, h⟩⟩
instance {i j : Bool} {k : Bool → Prop} : Step (EqP (.d (.bl i)) (.d (.bl j)) k) (k (decide (i = j))) := ⟨fun h => ⟨_, .bl i j, h⟩⟩
instance {i : Int} {j : Str} {k : Bool → Prop} : Step (EqP (.d (.int i)) (.d (.str j)) k) (k false) := ⟨fun h => ⟨_, .is i j, h⟩⟩
instance {i : Str} {j : Int} {k : Bool → Prop} : Step (EqP (.d (.str i)) (.d (.int j)) k) (k false) := ⟨fun h => ⟨_, .si i j, h⟩⟩
/-- == by scalars, or by data (the same on both sides) -/
def EqQ (X : Cx) (x y : DV) (k : Bool → Prop) : Prop := (∃ b, SEq x y b ∧ k b) ∨ ∃ d, x = .d d ∧ y = .d d ∧ fits d 64 = true ∧ k true
theorem eqQ_he {R : DV → Mem → Prop} {d : Nat} (hr : Rm d X.A) (h : HE X W a ds M (fun x M1 => HE X W b ds M1 (fun y M2 => EqQ X x y fun z => R (.d (.bl z)) M2) Xp) Xp) : HE X W (.Compare a [.Eq] [b] pos) ds M R Xp := by
  refine he_cmp (OpR.or op_eq (op_eqP hr.units)) (od_eq.or od_eqD) (he_imp h fun _ _ q => he_imp q fun _ _ z => ?_) (nomark _)
  rcases z with ⟨b, s, q⟩ | ⟨d, e1, e2, f, q⟩
  · exact .inl (s.no _ false q)
  · exact .inr ⟨d, d, e1, e2, f, f, by simp only [eqv_same f]; exact q⟩
theorem neQ_he {R : DV → Mem → Prop} {d : Nat} (hr : Rm d X.A) (h : HE X W a ds M (fun x M1 => HE X W b ds M1 (fun y M2 => EqQ X x y fun z => R (.d (.bl (!z))) M2) Xp) Xp) : HE X W (.Compare a [.NotEq] [b] pos) ds M R Xp := by
  refine he_cmp (OpR.or op_ne (op_neP hr.units)) (od_ne.or od_eqD) (he_imp h fun _ _ q => he_imp q fun _ _ z => ?_) (nomark _)
  rcases z with ⟨b, s, q⟩ | ⟨d, e1, e2, f, q⟩
  · exact .inl (s.no _ true q)
  · exact .inr ⟨d, d, e1, e2, f, f, by simp only [eqv_same f]; exact q⟩
theorem eqQ_ht {R : Bool → Mem → Prop} {d : Nat} (hr : Rm d X.A) (h : HE X W a ds M (fun x M1 => HE X W b ds M1 (fun y M2 => EqQ X x y fun z => R z M2) Xp) Xp) : HT X W (.Compare a [.Eq] [b] pos) ds M R Xp := by
  refine ht_cmp (OpR.or op_eq (op_eqP hr.units)) (od_eq.or od_eqD) (he_imp h fun _ _ q => he_imp q fun _ _ z => ?_) (nomark _)
  rcases z with ⟨b, s, q⟩ | ⟨d, e1, e2, f, q⟩
  · exact .inl (s.no _ false ⟨_, rfl, q⟩)
  · exact .inr ⟨d, d, e1, e2, f, f, true, by simp only [eqv_same f]; rfl, q⟩
theorem neQ_ht {R : Bool → Mem → Prop} {d : Nat} (hr : Rm d X.A) (h : HE X W a ds M (fun x M1 => HE X W b ds M1 (fun y M2 => EqQ X x y fun z => R (!z) M2) Xp) Xp) : HT X W (.Compare a [.NotEq] [b] pos) ds M R Xp := by
  refine ht_cmp (OpR.or op_ne (op_neP hr.units)) (od_ne.or od_eqD) (he_imp h fun _ _ q => he_imp q fun _ _ z => ?_) (nomark _)
  rcases z with ⟨b, s, q⟩ | ⟨d, e1, e2, f, q⟩
  · exact .inl (s.no _ true ⟨_, rfl, q⟩)
  · exact .inr ⟨d, d, e1, e2, f, f, false, by simp only [eqv_same f]; rfl, q⟩
instance [r : Rc X] : Step (HE X W (.Compare a [.Eq] [b] pos) ds M R Xp) (HE X W a ds M (fun x M1 => HE X W b ds M1 (fun y M2 => EqQ X x y fun z => R (.d (.bl z)) M2) Xp) Xp) := ⟨fun h => r.h.elim fun _ hr => eqQ_he hr h⟩
instance [r : Rc X] : Step (HE X W (.Compare a [.NotEq] [b] pos) ds M R Xp) (HE X W a ds M (fun x M1 => HE X W b ds M1 (fun y M2 => EqQ X x y fun z => R (.d (.bl (!z))) M2) Xp) Xp) := ⟨fun h => r.h.elim fun _ hr => neQ_he hr h⟩
instance {R : Bool → Mem → Prop} [r : Rc X] : Step (HT X W (.Compare a [.Eq] [b] pos) ds M R Xp) (HE X W a ds M (fun x M1 => HE X W b ds M1 (fun y M2 => EqQ X x y fun z => R z M2) Xp) Xp) := ⟨fun h => r.h.elim fun _ hr => eqQ_ht hr h⟩
instance {R : Bool → Mem → Prop} [r : Rc X] : Step (HT X W (.Compare a [.NotEq] [b] pos) ds M R Xp) (HE X W a ds M (fun x M1 => HE X W b ds M1 (fun y M2 => EqQ X x y fun z => R (!z) M2) Xp) Xp) := ⟨fun h => r.h.elim fun _ hr => neQ_ht hr h⟩
instance {i j : Int} {k : Bool → Prop} : Step (EqQ X (.d (.int i)) (.d (.int j)) k) (k (decide (i = j))) := ⟨fun h => .inl ⟨_, .int i j, h⟩⟩
instance {i j : Str} {k : Bool → Prop} : Step (EqQ X (.d (.str i)) (.d (.str j)) k) (k (decide (i = j))) := ⟨fun h => .inl ⟨_, .str i j, h⟩⟩
instance {i j : Bool} {k : Bool → Prop} : Step (EqQ X (.d (.bl i)) (.d (.bl j)) k) (k (decide (i = j))) := ⟨fun h => .inl ⟨_, .bl i j, h⟩⟩
instance {i : Int} {j : Str} {k : Bool → Prop} : Step (EqQ X (.d (.int i)) (.d (.str j)) k) (k false) := ⟨fun h => .inl ⟨_, .is i j, h⟩⟩
instance {i : Str} {j : Int} {k : Bool → Prop} : Step (EqQ X (.d (.str i)) (.d (.int j)) k) (k false) := ⟨fun h => .inl ⟨_, .si i j, h⟩⟩
theorem eqQ_same {d : Dat} {k : Bool → Prop} (f : fits d 64 = true) (h : k true) : EqQ X (.d d) (.d d) k := .inr ⟨d, rfl, rfl, f, h⟩
instance {j : Nat} {p2 : Pos} : Step (HE X W (.Compare a [.Is] [.Constant .none j p2] pos) ds M R Xp) (HE X W a ds M (fun x M1 => ∃ d, x = .d d ∧ R (.d (.bl (match d with | .non => true | _ => false))) M1) Xp) := ⟨he_isN⟩

/-! ### tests -/
instance {op : BoolOp} {R : Bool → Mem → Prop} : Step (HT X W (.BoolOp op es pos) ds M R Xp) (HW X W (.BoolOp op es pos) ds M R Xp) := ⟨ht_w⟩
instance {R : Bool → Mem → Prop} : Step (HW X W (.BoolOp .And [a] pos) ds M R Xp) (HT X W a ds M R Xp) := ⟨hw_and1⟩
instance {R : Bool → Mem → Prop} : Step (HW X W (.BoolOp .Or [a] pos) ds M R Xp) (HT X W a ds M R Xp) := ⟨hw_or1⟩
instance {R : Bool → Mem → Prop} : Step (HW X W (.BoolOp .And (a :: b :: es) pos) ds M R Xp) (HT X W a ds M (fun k M1 => if k = true then HW X W (.BoolOp .And (b :: es) pos) ds M1 R Xp else R false M1) Xp) := ⟨hw_and⟩
instance {R : Bool → Mem → Prop} : Step (HW X W (.BoolOp .Or (a :: b :: es) pos) ds M R Xp) (HT X W a ds M (fun k M1 => if k = true then R true M1 else HW X W (.BoolOp .Or (b :: es) pos) ds M1 R Xp) Xp) := ⟨hw_or⟩
instance {R : Bool → Mem → Prop} : Step (HT X W (.UnaryOp .Not a pos) ds M R Xp) (HT X W a ds M (fun k M1 => R (!k) M1) Xp) := ⟨ht_not⟩
def B1 (x : DV) (k : Bool → Prop) : Prop := ∃ b, x = .d (.bl b) ∧ k b
instance {b : Bool} {k : Bool → Prop} : Step (B1 (.d (.bl b)) k) (k b) := ⟨fun h => ⟨b, rfl, h⟩⟩
instance (priority := low) {R : Bool → Mem → Prop} [p : PT' e] : Step (HT X W e ds M R Xp) (HE X W e ds M (fun z M1 => B1 z fun k => R k M1) Xp) := ⟨fun h => ht_val h (p.h X.env)⟩
instance {op : BoolOp} : Step (HE X W (.BoolOp op [a] pos) ds M R Xp) (HE X W a ds M R Xp) := ⟨he_one⟩
instance : Step (HE X W (.BoolOp .And (a :: b :: es) pos) ds M R Xp) (HE X W a ds M (fun z M1 => B1 z fun k => if k = true then HE X W (.BoolOp .And (b :: es) pos) ds M1 R Xp else R (.d (.bl false)) M1) Xp) := ⟨he_and⟩
instance : Step (HE X W (.BoolOp .Or (a :: b :: es) pos) ds M R Xp) (HE X W a ds M (fun z M1 => B1 z fun k => if k = true then R (.d (.bl true)) M1 else HE X W (.BoolOp .Or (b :: es) pos) ds M1 R Xp) Xp) := ⟨he_or⟩
instance : Step (HE X W (.UnaryOp .Not a pos) ds M R Xp) (HE X W a ds M (fun z M1 => B1 z fun k => R (.d (.bl (!k))) M1) Xp) := ⟨he_not⟩
instance {A B : Prop} : Step (if true = true then A else B) A := ⟨fun h => by rw [if_pos rfl]; exact h⟩
instance {A B : Prop} : Step (if false = true then A else B) B := ⟨fun h => by rw [if_neg Bool.false_ne_true]; exact h⟩
instance {A B : Prop} : Step (if (!true) = true then A else B) B := ⟨fun h => by rw [if_neg (by decide)]; exact h⟩
instance {A B : Prop} : Step (if (!false) = true then A else B) A := ⟨fun h => by rw [if_pos (by decide)]; exact h⟩
/-- two texts known to be one, or two -/
class SNe (s t : Str) : Prop where
  h : s ≠ t
instance {s : Str} {A B : Prop} : Step (if decide (s = s) = true then A else B) A := ⟨fun h => by rw [if_pos (by simp)]; exact h⟩
instance {s t : Str} {A B : Prop} [n : SNe s t] : Step (if decide (s = t) = true then A else B) B := ⟨fun h => by rw [if_neg (by simpa using n.h)]; exact h⟩
instance {s : Str} {A B : Prop} : Step (if (!decide (s = s)) = true then A else B) B := ⟨fun h => by rw [if_neg (by simp)]; exact h⟩
instance {s t : Str} {A B : Prop} [n : SNe s t] : Step (if (!decide (s = t)) = true then A else B) A := ⟨fun h => by rw [if_pos (by simpa using n.h)]; exact h⟩

/-! ### displays, subscripts, slices -/
def AllP (dvs : List DV) (k : List Dat → Prop) : Prop := ∃ as, AllD dvs as ∧ k as
instance {dvs : List DV} {as : List Dat} {k : List Dat → Prop} [a : AllC dvs as] : Step (AllP dvs k) (k as) := ⟨fun h => ⟨as, a.h, h⟩⟩
theorem wa_len {K : PySem.W.Frag} : ∀ {es : List Expr} {t : TA}, True := fun {_ _} => trivial
instance {R : List DV → Mem → Prop} : Step (HA X W [] ds M R Xp) (R [] M) := ⟨ha_nil⟩
instance {R : List DV → Mem → Prop} [s : NS e] : Step (HA X W (e :: es) ds M R Xp) (HE X W e ds M (fun d M1 => HA X W es ds M1 (fun dvs M2 => R (d :: dvs) M2) Xp) Xp) := ⟨fun h => ha_cons h (s.h es X.env)⟩
def IxP (M : Mem) (x y : DV) (k : DV → Prop) : Prop := ∃ i d, y = .d (.int i) ∧ Ixd M x i d ∧ k d
instance [p : PX' b] : Step (HE X W (.Subscript a b pos) ds M R Xp) (HE X W a ds M (fun x M1 => HE X W b ds M1 (fun y M2 => IxP M2 x y fun d => R d M2) Xp) Xp) := ⟨fun h => r_ix h p.h⟩
/-- a written place -/
class IntLit (i : Int) (n : outParam Nat) : Prop where
  h : i = (n : Int)
instance : IntLit 0 0 := ⟨rfl⟩
instance : IntLit 1 1 := ⟨rfl⟩
instance : IntLit 2 2 := ⟨rfl⟩
instance : IntLit 3 3 := ⟨rfl⟩
instance : IntLit 4 4 := ⟨rfl⟩
instance : IntLit 5 5 := ⟨rfl⟩
instance : IntLit 6 6 := ⟨rfl⟩
instance : IntLit 7 7 := ⟨rfl⟩
instance : IntLit 8 8 := ⟨rfl⟩
instance : IntLit 9 9 := ⟨rfl⟩
instance : IntLit 10 10 := ⟨rfl⟩
instance : IntLit 11 11 := ⟨rfl⟩
instance : IntLit 12 12 := ⟨rfl⟩
instance : IntLit 13 13 := ⟨rfl⟩
instance : IntLit 14 14 := ⟨rfl⟩
instance : IntLit 15 15 := ⟨rfl⟩
instance : IntLit 16 16 := ⟨rfl⟩
instance {i : Int} {xs : List Dat} {n : Nat} {d : Dat} {k : DV → Prop} [il : IntLit i n] [a : AtC xs n d] : Step (IxP M (.d (.tup xs)) (.d (.int i)) k) (k (.d d)) := ⟨fun h => ⟨_, _, rfl, .tup (by rw [il.h]; exact atI_nat a.h), h⟩⟩
instance {i : Int} {xs : List Dat} {n : Nat} {d : Dat} {k : DV → Prop} [il : IntLit i n] [a : AtC xs n d] : Step (IxP M (.d (.lst xs)) (.d (.int i)) k) (k (.d d)) := ⟨fun h => ⟨_, _, rfl, .lst (by rw [il.h]; exact atI_nat a.h), h⟩⟩
def SldP (M : Mem) (x : DV) (i j : Option Int) (k : Dat → Prop) : Prop := ∃ d, Sld M x i j d ∧ k d
theorem cutD_from (xs : List Dat) (n : Nat) : cutD xs (some (n : Int)) none = xs.drop n := by
  unfold cutD
  rw [HT.sIx_nat, HT.sIx_none]
  by_cases h : n ≤ xs.length
  · rw [Nat.min_eq_left h, List.take_of_length_le (by rw [List.length_drop]; omega)]
  · rw [Nat.min_eq_right (by omega), List.drop_of_length_le (Nat.le_refl _), List.drop_of_length_le (by omega), List.take_nil]
instance {x : Dat} {xs : List Dat} {k : Dat → Prop} : Step (SldP M (.d (.tup (x :: xs))) (some 1) none k) (k (.tup xs)) := ⟨fun h => by
  have e := cutD_from (x :: xs) 1
  refine ⟨.tup (cutD (x :: xs) (some 1) none), .tup (fun z => ?_), ?_⟩
  · have := z.1
    rw [show (1 : Int) = ((1 : Nat) : Int) from rfl, HT.sIx_nat, List.length_cons] at this
    omega
  · rw [show (1 : Int) = ((1 : Nat) : Int) from rfl, e]
    exact h⟩
instance {x y : Dat} {xs : List Dat} {k : Dat → Prop} : Step (SldP M (.d (.tup (x :: y :: xs))) (some 2) none k) (k (.tup xs)) := ⟨fun h => by
  have e := cutD_from (x :: y :: xs) 2
  refine ⟨.tup (cutD (x :: y :: xs) (some 2) none), .tup (fun z => ?_), ?_⟩
  · have := z.1
    rw [show (2 : Int) = ((2 : Nat) : Int) from rfl, HT.sIx_nat, List.length_cons, List.length_cons] at this
    omega
  · rw [show (2 : Int) = ((2 : Nat) : Int) from rfl, e]
    exact h⟩
instance {lo hi : Option Expr} : Step (HE X W (.Subscript a (.Slice lo hi none p2) pos) ds M R Xp) (HE X W a ds M (fun x M1 => HO' X W lo ds M1 (fun i M2 => HO' X W hi ds M2 (fun j M3 => SldP M3 x i j fun d => R (.d d) M3) Xp) Xp) Xp) := ⟨he_sl⟩
instance {R : Option Int → Mem → Prop} : Step (HO' X W none ds M R Xp) (R none M) := ⟨o_none⟩
instance {R : Option Int → Mem → Prop} : Step (HO' X W (some e) ds M R Xp) (HE X W e ds M (fun x M1 => I1 x fun i => R (some i) M1) Xp) := ⟨o_some⟩
end
end CS

/-! CsStep2: displays, calls, statements, by instances. -/
namespace CS
open PySem L2
class AllB (l : List DV) (r : outParam (List Dat)) (n : Nat) : Prop where
  h : AllD l r
  b : r.length ≤ n
instance {n : Nat} : AllB [] [] n := ⟨.nil, Nat.zero_le _⟩
instance {d : Dat} {l : List DV} {r : List Dat} {n : Nat} [a : AllB l r n] : AllB (.d d :: l) (d :: r) (n + 1) := ⟨.cons a.h, Nat.succ_le_succ a.b⟩
section
variable {X : Cx} {W : WX} {e a b c o : Expr} {es : List Expr} {ds : Slots} {M : Mem} {R : DV → Mem → Prop} {Xp : Value → Mem → Prop} {pos p p2 p3 apos : Pos} {V L G B : List Str}
variable {pn : Slots → Mem → Prop} {pr : DV → Mem → Prop} {pb pc : Slots → Mem → Prop} {px : Value → Slots → Mem → Prop}
def DisP (dvs : List DV) (k : List Dat → Prop) : Prop := ∃ as, AllD dvs as ∧ as.length ≤ 1000 ∧ k as
instance {dvs : List DV} {as : List Dat} {k : List Dat → Prop} [a : AllB dvs as 30] : Step (DisP dvs k) (k as) := ⟨fun h => ⟨as, a.h, Nat.le_trans a.b (by decide), h⟩⟩
instance {k : Nat} : Step (HE X W (.Tuple es k pos) ds M R Xp) (HA X W es ds M (fun dvs M1 => DisP dvs fun as => R (.d (.tup as)) M1) Xp) := ⟨he_tup⟩
instance : Step (HE X W (.List es pos) ds M R Xp) (HA X W es ds M (fun dvs M1 => DisP dvs fun as => R (.d (.lst as)) M1) Xp) := ⟨he_lst⟩

/-! ### built-ins -/
def LenP (M : Mem) (dvs : List DV) (k : Nat → Prop) : Prop := ∃ a n, dvs = [a] ∧ LenD M a n ∧ k n
instance [k : Kc X V L G B] [m : MmC B "len"] [s : NS e] : Step (HE X W (.Call (.Name "len" p) [e] [] pos) ds M R Xp) (HA X W [e] ds M (fun as M1 => LenP M1 as fun n => R (.d (.int n)) M1) Xp) := ⟨fun h => he_len k.k m.h h (s.h [] X.env) rfl⟩
instance {xs : List Dat} {k : Nat → Prop} : Step (LenP M [.d (.lst xs)] k) (k xs.length) := ⟨fun h => ⟨_, _, rfl, .lst, h⟩⟩
instance {xs : List Dat} {k : Nat → Prop} : Step (LenP M [.d (.tup xs)] k) (k xs.length) := ⟨fun h => ⟨_, _, rfl, .tup, h⟩⟩
instance {xs : List Int} {k : Nat → Prop} : Step (LenP M [.d (.scr xs)] k) (k xs.length) := ⟨fun h => ⟨_, _, rfl, .scr, h⟩⟩
def SeqP (M : Mem) (dvs : List DV) (k : List Dat → Prop) : Prop := ∃ a xs, dvs = [a] ∧ SeqD M a xs ∧ k xs
instance [k : Kc X V L G B] [m : MmC B "list"] [s : NS e] : Step (HE X W (.Call (.Name "list" p) [e] [] pos) ds M R Xp) (HA X W [e] ds M (fun as M1 => SeqP M1 as fun xs => R (.d (.lst xs)) M1) Xp) := ⟨fun h => he_list k.k m.h h (s.h [] X.env) rfl⟩
instance {xs : List Dat} {k : List Dat → Prop} : Step (SeqP M [.d (.lst xs)] k) (k xs) := ⟨fun h => ⟨_, _, rfl, .lst, h⟩⟩
instance {xs : List Dat} {k : List Dat → Prop} : Step (SeqP M [.d (.tup xs)] k) (k xs) := ⟨fun h => ⟨_, _, rfl, .tup, h⟩⟩
def LofP (M : Mem) (dvs : List DV) (k : List Dat → Prop) : Prop := ∃ a xs, dvs = [a] ∧ LOf M a xs ∧ k xs
instance [k : Kc X V L G B] [m : MmC B "tuple"] [s : NS e] : Step (HE X W (.Call (.Name "tuple" p) [e] [] pos) ds M R Xp) (HA X W [e] ds M (fun as M1 => LofP M1 as fun xs => R (.d (.tup xs)) M1) Xp) := ⟨fun h => he_tupleB k.k m.h h (s.h [] X.env) rfl⟩
instance {xs : List Dat} {k : List Dat → Prop} : Step (LofP M [.d (.lst xs)] k) (k xs) := ⟨fun h => ⟨_, _, rfl, .dat, h⟩⟩
def A1 (dvs : List DV) (k : Int → Prop) : Prop := ∃ i, dvs = [.d (.int i)] ∧ k i
instance {i : Int} {k : Int → Prop} : Step (A1 [.d (.int i)] k) (k i) := ⟨fun h => ⟨_, rfl, h⟩⟩
instance [k : Kc X V L G B] [m : MmC B "abs"] [s : NS e] : Step (HE X W (.Call (.Name "abs" p) [e] [] pos) ds M R Xp) (HA X W [e] ds M (fun as M1 => A1 as fun i => R (.d (.int (if i < 0 then -i else i))) M1) Xp) := ⟨fun h => he_abs k.k m.h h (s.h [] X.env) rfl⟩
def IntP (dvs : List DV) (k : Int → Prop) : Prop := ∃ d i, dvs = [.d d] ∧ IntD d i ∧ k i
instance {i : Int} {k : Int → Prop} : Step (IntP [.d (.int i)] k) (k i) := ⟨fun h => ⟨_, _, rfl, .int _, h⟩⟩
instance {b : Bool} {k : Int → Prop} : Step (IntP [.d (.bl b)] k) (k (if b then 1 else 0)) := ⟨fun h => ⟨_, _, rfl, .bl _, h⟩⟩
instance [k : Kc X V L G B] [m : MmC B "int"] [s : NS e] : Step (HE X W (.Call (.Name "int" p) [e] [] pos) ds M R Xp) (HA X W [e] ds M (fun as M1 => IntP as fun i => R (.d (.int i)) M1) Xp) := ⟨fun h => he_intB k.k m.h h (s.h [] X.env) rfl⟩
def A2 (dvs : List DV) (k : Int → Int → Prop) : Prop := ∃ i j, dvs = [.d (.int i), .d (.int j)] ∧ k i j
instance {i j : Int} {k : Int → Int → Prop} : Step (A2 [.d (.int i), .d (.int j)] k) (k i j) := ⟨fun h => ⟨_, _, rfl, h⟩⟩
instance [c : Cc X] [k : Kc X V L G B] [m : MmC B "max"] [s : NS a] [s2 : NS b] : Step (HE X W (.Call (.Name "max" p) [a, b] [] pos) ds M R Xp) (HA X W [a, b] ds M (fun as M1 => A2 as fun i j => R (.d (.int (max i j))) M1) Xp) :=
  ⟨fun h => he_max2 c.h k.k m.h h (s.h [b] X.env) (NSs.back inferInstance pos X.env)⟩
instance [c : Cc X] [k : Kc X V L G B] [m : MmC B "min"] [s : NS a] [s2 : NS b] : Step (HE X W (.Call (.Name "min" p) [a, b] [] pos) ds M R Xp) (HA X W [a, b] ds M (fun as M1 => A2 as fun i j => R (.d (.int (min i j))) M1) Xp) :=
  ⟨fun h => he_min2 c.h k.k m.h h (s.h [b] X.env) (NSs.back inferInstance pos X.env)⟩
def MaxP (M : Mem) (dvs : List DV) (k : Int → Prop) : Prop := ∃ (a : DV) (ns : List Int), dvs = [a] ∧ LOf M a (ns.map .int) ∧ 0 < ns.length ∧ ∀ m, m ∈ ns → (∀ y, y ∈ ns → y ≤ m) → k m
instance [c : Cc X] [k : Kc X V L G B] [m : MmC B "max"] [s : NS a] : Step (HE X W (.Call (.Name "max" p) [a] [] pos) ds M R Xp) (HA X W [a] ds M (fun as M1 => MaxP M1 as fun i => R (.d (.int i)) M1) Xp) := ⟨fun h => he_maxL c.h k.k m.h h (s.h [] X.env) rfl⟩
/-- the type that a built-in name holds -/
class BtC (x : Str) (T : outParam String) : Prop where
  e : x = Str.ofString T
  h : bootBuiltins x = some (.type T)
instance : BtC "int" "int" := ⟨rfl, by decide +kernel⟩
instance : BtC "bool" "bool" := ⟨rfl, by decide +kernel⟩
instance : BtC "str" "str" := ⟨rfl, by decide +kernel⟩
instance : BtC "list" "list" := ⟨rfl, by decide +kernel⟩
instance : BtC "tuple" "tuple" := ⟨rfl, by decide +kernel⟩
instance : BtC "dict" "dict" := ⟨rfl, by decide +kernel⟩
/-- what isinstance answers -/
class IsC (d : Dat) (T : String) (b : outParam Bool) : Prop where
  h : ∃ nm, TyD d nm ∧ kitB nm T = some b
instance {i} : IsC (.int i) "int" true := ⟨_, .int i, by decide +kernel⟩
instance {i} : IsC (.int i) "bool" false := ⟨_, .int i, by decide +kernel⟩
instance {i} : IsC (.int i) "str" false := ⟨_, .int i, by decide +kernel⟩
instance {i} : IsC (.bl i) "int" true := ⟨_, .bl i, by decide +kernel⟩
instance {i} : IsC (.bl i) "bool" true := ⟨_, .bl i, by decide +kernel⟩
instance {i} : IsC (.bl i) "str" false := ⟨_, .bl i, by decide +kernel⟩
instance {i} : IsC (.str i) "int" false := ⟨_, .str i, by decide +kernel⟩
instance {i} : IsC (.str i) "bool" false := ⟨_, .str i, by decide +kernel⟩
instance {i} : IsC (.str i) "str" true := ⟨_, .str i, by decide +kernel⟩
instance {i} : IsC (.str i) "list" false := ⟨_, .str i, by decide +kernel⟩
instance {i} : IsC (.lst i) "list" true := ⟨_, .lst i, by decide +kernel⟩
instance {i} : IsC (.lst i) "str" false := ⟨_, .lst i, by decide +kernel⟩
instance {i} : IsC (.tup i) "tuple" true := ⟨_, .tup i, by decide +kernel⟩
instance {i} : IsC (.tup i) "str" false := ⟨_, .tup i, by decide +kernel⟩
instance {i} : IsC (.dct i) "dict" true := ⟨_, .dct i, by decide +kernel⟩
instance : IsC .non "int" false := ⟨_, .non, by decide +kernel⟩
instance : IsC .non "bool" false := ⟨_, .non, by decide +kernel⟩
instance : IsC .non "str" false := ⟨_, .non, by decide +kernel⟩
def IsP (T : String) (x : DV) (k : Bool → Prop) : Prop := ∃ d nm b, x = .d d ∧ TyD d nm ∧ kitB nm T = some b ∧ k b
instance {T : String} {d : Dat} {b : Bool} {k : Bool → Prop} [i : IsC d T b] : Step (IsP T (.d d) k) (k b) := ⟨fun h => i.h.elim fun nm q => ⟨d, nm, b, rfl, q.1, q.2, h⟩⟩
instance {x : Str} {T : String} [k : Kc X V L G B] [m : MmC B "isinstance"] [m2 : MmC B x] [bt : BtC x T] [s : NS e] : Step (HE X W (.Call (.Name "isinstance" p2) [e, .Name x p3] [] pos) ds M R Xp) (HE X W e ds M (fun x M1 => IsP T x fun b => R (.d (.bl b)) M1) Xp) := ⟨fun h => by
  obtain ⟨e1, h1⟩ := bt
  subst e1
  exact r_isi k.k m.h m2.h h1 h (s.h _ X.env) rfl⟩
/-- a built-in's name is no data: the low road is shut -/
def JoinP (M : Mem) (y : DV) (a : Str) (k : List Str → Prop) : Prop := ∃ ys : List Str, LOf M y (ys.map .str) ∧ (ys.map (·.length)).sum + ys.length * a.length ≤ 16777216 ∧ k ys
class AcC (o : Expr) : Prop where
  h : ∀ f env, attributeBase o f env (eval o env) = eval o env
instance {a b} : AcC (.Name a b) := ⟨fun _ _ => rfl⟩
instance {a b c} : AcC (.Constant a b c) := ⟨fun _ _ => rfl⟩
instance {a b c} : AcC (.Attribute a b c) := ⟨fun _ _ => rfl⟩
instance {a b c} : AcC (.Subscript a b c) := ⟨fun _ _ => rfl⟩

def S1 (x : DV) (k : Str → Prop) : Prop := ∃ i, x = .d (.str i) ∧ k i
instance {i : Str} {k : Str → Prop} : Step (S1 (.d (.str i)) k) (k i) := ⟨fun h => ⟨i, rfl, h⟩⟩
theorem r_joinS [s : NS e] [ac : AcC o] (h : HE X W o ds M (fun x M1 => S1 x fun a => HE X W e ds M1 (fun y M2 => JoinP M2 y a fun ys => R (.d (.str (Txt.join a ys))) M2) Xp) Xp) (hline : (apos.endLine == pos.line) = true := by with_unfolding_all rfl) :
    HE X W (.Call (.Attribute o "join" apos) [e] [] pos) ds M R Xp := r_join h (s.h [] X.env) (ac.h _ _) hline
/-! ### calls of defs over data -/
/-- the def that x names, callable here -/
class CallC (X : Cx) (W : WX) (x : Str) (Rel : outParam (List Dat → Oc → Prop)) : Prop where
  go : ∀ {e : Expr} {es : List Expr} {ds : Slots} {M : Mem} {R : DV → Mem → Prop} {Xp : Value → Mem → Prop} {p pos : Pos}, NS e → NSs es →
    HA X W (e :: es) ds M (fun dvs M1 => ∃ as o, AllD dvs as ∧ Rel as o ∧ Fin o R Xp M1) Xp → HE X W (.Call (.Name x p) (e :: es) [] pos) ds M R Xp
theorem callC {CX : CXT} {d c : Nat} {x : Str} {ps : List Str} {Rel : List Dat → Oc → Prop} (D : Def X.prog X.w X.K X.mg X.base CX d x ps (spD X.K Rel)) (hr : Rm c X.A) (hx : Lets CX X W) (k : Kx X V L G B) (m : Mm G x) (hd : d ≤ c) : CallC X W x Rel :=
  ⟨fun {e es ds M R Xp p pos} s ss h => he_call D k m (hr.mono hd) hx h (s.h es X.env) (ss.back pos X.env)⟩
/-- what a def over data answers, by instances -/
class RelC (Rel : List Dat → Oc → Prop) (as : List Dat) (o : outParam Oc) : Prop where
  h : Rel as o
def RelP (Rel : List Dat → Oc → Prop) (as : List Dat) (k : Oc → Prop) : Prop := ∃ o, Rel as o ∧ k o
instance {x : Str} {Rel : List Dat → Oc → Prop} [cc : CallC X W x Rel] [s : NS e] [ss : NSs es] : Step (HE X W (.Call (.Name x p) (e :: es) [] pos) ds M R Xp) (HA X W (e :: es) ds M (fun dvs M1 => AllP dvs fun as => RelP Rel as fun o => Fin o R Xp M1) Xp) :=
  ⟨fun h => cc.go s ss fun n S F0 H0 F H σ I Q q x => h n S F0 H0 F H σ I Q (fun vs F' H' M' dvs s' I' o' ⟨as, ha, o, hr, g⟩ => q vs F' H' M' dvs s' I' o' ⟨as, o, ha, hr, g⟩) x⟩
instance {Rel : List Dat → Oc → Prop} {as : List Dat} {o : Oc} {k : Oc → Prop} [r : RelC Rel as o] : Step (RelP Rel as k) (k o) := ⟨fun h => ⟨o, r.h, h⟩⟩
instance {d : Dat} : Step (Fin (.val d) R Xp M) (R (.d d) M) := ⟨fun h => h⟩
instance {cl : Value} : Step (Fin (.exc cl) R Xp M) (Xp cl M) := ⟨fun h => h⟩

instance {d : Dat} : Step (Rt (.val d) (.d d) M) True := ⟨fun _ => rfl⟩
/-! ### statements -/
def UpP (ds : Slots) (x : Str) (i : Nat) (dv : DV) (k : Slots → Prop) : Prop := ∃ ds', Up ds x dv ds' i ∧ k ds'
instance {x : Str} {i : Nat} {dv : DV} {ds' : Slots} {k : Slots → Prop} [u : UpC ds x dv i ds'] : Step (UpP ds x i dv k) (k ds') := ⟨fun h => ⟨ds', u.h, h⟩⟩
instance : Step (HSs X W [] ds M ⟨pn, pr, pb, pc, px⟩) (pn ds M) := ⟨hss_nil⟩
instance {st : Stmt} {rest : List Stmt} : Step (HSs X W (st :: rest) ds M ⟨pn, pr, pb, pc, px⟩) (HS X W st ds M ⟨fun ds' M' => HSs X W rest ds' M' ⟨pn, pr, pb, pc, px⟩, pr, pb, pc, px⟩) := ⟨hss_cons⟩
instance {x : Str} {i : Nat} [k : Kc X V L G B] [pl : PlC ds x i] [m : MmC L x] [nc : NC e] : Step (HS X W (.Assign [.Name x p] e pos) ds M ⟨pn, pr, pb, pc, px⟩) (HE X W e ds M (fun dv M1 => UpP ds x i dv fun ds' => pn ds' M1) (fun cls M1 => px cls ds M1)) :=
  ⟨fun h => r_set k.k pl.h m.h h (nc.h _ _ _)⟩
instance {q r : List Stmt} : Step (HS X W (.If c q r pos) ds M ⟨pn, pr, pb, pc, px⟩) (HT X W c ds M (fun k M1 => if k = true then HSs X W q ds M1 ⟨pn, pr, pb, pc, px⟩ else HSs X W r ds M1 ⟨pn, pr, pb, pc, px⟩) (fun cls M1 => px cls ds M1)) := ⟨hs_if⟩
instance : Step (HS X W (.Return (some e) pos) ds M ⟨pn, pr, pb, pc, px⟩) (HE X W e ds M (fun dv M1 => pr dv M1) (fun cls M1 => px cls ds M1)) := ⟨hs_ret⟩
instance : Step (HS X W (.Return none pos) ds M ⟨pn, pr, pb, pc, px⟩) (pr (.d .non) M) := ⟨hs_retN⟩
instance [nc : NC e] : Step (HS X W (.Expr e pos) ds M ⟨pn, pr, pb, pc, px⟩) (HE X W e ds M (fun dv M1 => pn ds M1) (fun cls M1 => px cls ds M1)) := ⟨fun h => hs_drop h (nc.h _ _ _)⟩
end
theorem SNe.of {s t : Str} (h : decide (s = t) = false) : SNe s t := ⟨of_decide_eq_false h⟩
end CS

/-! CsWords: the words of the language, told apart. -/
namespace CS
open PySem L2
instance : SNe "num" "name" := ⟨by decide +kernel⟩
instance : SNe "num" "sum" := ⟨by decide +kernel⟩
instance : SNe "num" "less" := ⟨by decide +kernel⟩
instance : SNe "num" "times" := ⟨by decide +kernel⟩
instance : SNe "num" "part" := ⟨by decide +kernel⟩
instance : SNe "num" "below" := ⟨by decide +kernel⟩
instance : SNe "num" "choose" := ⟨by decide +kernel⟩
instance : SNe "num" "let" := ⟨by decide +kernel⟩
instance : SNe "num" "call" := ⟨by decide +kernel⟩
instance : SNe "name" "num" := ⟨by decide +kernel⟩
instance : SNe "name" "sum" := ⟨by decide +kernel⟩
instance : SNe "name" "less" := ⟨by decide +kernel⟩
instance : SNe "name" "times" := ⟨by decide +kernel⟩
instance : SNe "name" "part" := ⟨by decide +kernel⟩
instance : SNe "name" "below" := ⟨by decide +kernel⟩
instance : SNe "name" "choose" := ⟨by decide +kernel⟩
instance : SNe "name" "let" := ⟨by decide +kernel⟩
instance : SNe "name" "call" := ⟨by decide +kernel⟩
instance : SNe "sum" "num" := ⟨by decide +kernel⟩
instance : SNe "sum" "name" := ⟨by decide +kernel⟩
instance : SNe "sum" "less" := ⟨by decide +kernel⟩
instance : SNe "sum" "times" := ⟨by decide +kernel⟩
instance : SNe "sum" "part" := ⟨by decide +kernel⟩
instance : SNe "sum" "below" := ⟨by decide +kernel⟩
instance : SNe "sum" "choose" := ⟨by decide +kernel⟩
instance : SNe "sum" "let" := ⟨by decide +kernel⟩
instance : SNe "sum" "call" := ⟨by decide +kernel⟩
instance : SNe "less" "num" := ⟨by decide +kernel⟩
instance : SNe "less" "name" := ⟨by decide +kernel⟩
instance : SNe "less" "sum" := ⟨by decide +kernel⟩
instance : SNe "less" "times" := ⟨by decide +kernel⟩
instance : SNe "less" "part" := ⟨by decide +kernel⟩
instance : SNe "less" "below" := ⟨by decide +kernel⟩
instance : SNe "less" "choose" := ⟨by decide +kernel⟩
instance : SNe "less" "let" := ⟨by decide +kernel⟩
instance : SNe "less" "call" := ⟨by decide +kernel⟩
instance : SNe "times" "num" := ⟨by decide +kernel⟩
instance : SNe "times" "name" := ⟨by decide +kernel⟩
instance : SNe "times" "sum" := ⟨by decide +kernel⟩
instance : SNe "times" "less" := ⟨by decide +kernel⟩
instance : SNe "times" "part" := ⟨by decide +kernel⟩
instance : SNe "times" "below" := ⟨by decide +kernel⟩
instance : SNe "times" "choose" := ⟨by decide +kernel⟩
instance : SNe "times" "let" := ⟨by decide +kernel⟩
instance : SNe "times" "call" := ⟨by decide +kernel⟩
instance : SNe "part" "num" := ⟨by decide +kernel⟩
instance : SNe "part" "name" := ⟨by decide +kernel⟩
instance : SNe "part" "sum" := ⟨by decide +kernel⟩
instance : SNe "part" "less" := ⟨by decide +kernel⟩
instance : SNe "part" "times" := ⟨by decide +kernel⟩
instance : SNe "part" "below" := ⟨by decide +kernel⟩
instance : SNe "part" "choose" := ⟨by decide +kernel⟩
instance : SNe "part" "let" := ⟨by decide +kernel⟩
instance : SNe "part" "call" := ⟨by decide +kernel⟩
instance : SNe "below" "num" := ⟨by decide +kernel⟩
instance : SNe "below" "name" := ⟨by decide +kernel⟩
instance : SNe "below" "sum" := ⟨by decide +kernel⟩
instance : SNe "below" "less" := ⟨by decide +kernel⟩
instance : SNe "below" "times" := ⟨by decide +kernel⟩
instance : SNe "below" "part" := ⟨by decide +kernel⟩
instance : SNe "below" "choose" := ⟨by decide +kernel⟩
instance : SNe "below" "let" := ⟨by decide +kernel⟩
instance : SNe "below" "call" := ⟨by decide +kernel⟩
instance : SNe "choose" "num" := ⟨by decide +kernel⟩
instance : SNe "choose" "name" := ⟨by decide +kernel⟩
instance : SNe "choose" "sum" := ⟨by decide +kernel⟩
instance : SNe "choose" "less" := ⟨by decide +kernel⟩
instance : SNe "choose" "times" := ⟨by decide +kernel⟩
instance : SNe "choose" "part" := ⟨by decide +kernel⟩
instance : SNe "choose" "below" := ⟨by decide +kernel⟩
instance : SNe "choose" "let" := ⟨by decide +kernel⟩
instance : SNe "choose" "call" := ⟨by decide +kernel⟩
instance : SNe "let" "num" := ⟨by decide +kernel⟩
instance : SNe "let" "name" := ⟨by decide +kernel⟩
instance : SNe "let" "sum" := ⟨by decide +kernel⟩
instance : SNe "let" "less" := ⟨by decide +kernel⟩
instance : SNe "let" "times" := ⟨by decide +kernel⟩
instance : SNe "let" "part" := ⟨by decide +kernel⟩
instance : SNe "let" "below" := ⟨by decide +kernel⟩
instance : SNe "let" "choose" := ⟨by decide +kernel⟩
instance : SNe "let" "call" := ⟨by decide +kernel⟩
instance : SNe "call" "num" := ⟨by decide +kernel⟩
instance : SNe "call" "name" := ⟨by decide +kernel⟩
instance : SNe "call" "sum" := ⟨by decide +kernel⟩
instance : SNe "call" "less" := ⟨by decide +kernel⟩
instance : SNe "call" "times" := ⟨by decide +kernel⟩
instance : SNe "call" "part" := ⟨by decide +kernel⟩
instance : SNe "call" "below" := ⟨by decide +kernel⟩
instance : SNe "call" "choose" := ⟨by decide +kernel⟩
instance : SNe "call" "let" := ⟨by decide +kernel⟩
instance : SNe "push" "load" := ⟨by decide +kernel⟩
instance : SNe "push" "keep" := ⟨by decide +kernel⟩
instance : SNe "push" "do" := ⟨by decide +kernel⟩
instance : SNe "push" "unless" := ⟨by decide +kernel⟩
instance : SNe "push" "skip" := ⟨by decide +kernel⟩
instance : SNe "push" "call" := ⟨by decide +kernel⟩
instance : SNe "push" "back" := ⟨by decide +kernel⟩
instance : SNe "load" "push" := ⟨by decide +kernel⟩
instance : SNe "load" "keep" := ⟨by decide +kernel⟩
instance : SNe "load" "do" := ⟨by decide +kernel⟩
instance : SNe "load" "unless" := ⟨by decide +kernel⟩
instance : SNe "load" "skip" := ⟨by decide +kernel⟩
instance : SNe "load" "call" := ⟨by decide +kernel⟩
instance : SNe "load" "back" := ⟨by decide +kernel⟩
instance : SNe "keep" "push" := ⟨by decide +kernel⟩
instance : SNe "keep" "load" := ⟨by decide +kernel⟩
instance : SNe "keep" "do" := ⟨by decide +kernel⟩
instance : SNe "keep" "unless" := ⟨by decide +kernel⟩
instance : SNe "keep" "skip" := ⟨by decide +kernel⟩
instance : SNe "keep" "call" := ⟨by decide +kernel⟩
instance : SNe "keep" "back" := ⟨by decide +kernel⟩
instance : SNe "do" "push" := ⟨by decide +kernel⟩
instance : SNe "do" "load" := ⟨by decide +kernel⟩
instance : SNe "do" "keep" := ⟨by decide +kernel⟩
instance : SNe "do" "unless" := ⟨by decide +kernel⟩
instance : SNe "do" "skip" := ⟨by decide +kernel⟩
instance : SNe "do" "call" := ⟨by decide +kernel⟩
instance : SNe "do" "back" := ⟨by decide +kernel⟩
instance : SNe "unless" "push" := ⟨by decide +kernel⟩
instance : SNe "unless" "load" := ⟨by decide +kernel⟩
instance : SNe "unless" "keep" := ⟨by decide +kernel⟩
instance : SNe "unless" "do" := ⟨by decide +kernel⟩
instance : SNe "unless" "skip" := ⟨by decide +kernel⟩
instance : SNe "unless" "call" := ⟨by decide +kernel⟩
instance : SNe "unless" "back" := ⟨by decide +kernel⟩
instance : SNe "skip" "push" := ⟨by decide +kernel⟩
instance : SNe "skip" "load" := ⟨by decide +kernel⟩
instance : SNe "skip" "keep" := ⟨by decide +kernel⟩
instance : SNe "skip" "do" := ⟨by decide +kernel⟩
instance : SNe "skip" "unless" := ⟨by decide +kernel⟩
instance : SNe "skip" "call" := ⟨by decide +kernel⟩
instance : SNe "skip" "back" := ⟨by decide +kernel⟩
instance : SNe "call" "push" := ⟨by decide +kernel⟩
instance : SNe "call" "load" := ⟨by decide +kernel⟩
instance : SNe "call" "keep" := ⟨by decide +kernel⟩
instance : SNe "call" "do" := ⟨by decide +kernel⟩
instance : SNe "call" "unless" := ⟨by decide +kernel⟩
instance : SNe "call" "skip" := ⟨by decide +kernel⟩
instance : SNe "call" "back" := ⟨by decide +kernel⟩
instance : SNe "back" "push" := ⟨by decide +kernel⟩
instance : SNe "back" "load" := ⟨by decide +kernel⟩
instance : SNe "back" "keep" := ⟨by decide +kernel⟩
instance : SNe "back" "do" := ⟨by decide +kernel⟩
instance : SNe "back" "unless" := ⟨by decide +kernel⟩
instance : SNe "back" "skip" := ⟨by decide +kernel⟩
instance : SNe "back" "call" := ⟨by decide +kernel⟩
instance : SNe "nought" "great" := ⟨by decide +kernel⟩
instance : SNe "nought" "deep" := ⟨by decide +kernel⟩
instance : SNe "nought" "dry" := ⟨by decide +kernel⟩
instance : SNe "nought" "value" := ⟨by decide +kernel⟩
instance : SNe "great" "nought" := ⟨by decide +kernel⟩
instance : SNe "great" "deep" := ⟨by decide +kernel⟩
instance : SNe "great" "dry" := ⟨by decide +kernel⟩
instance : SNe "great" "value" := ⟨by decide +kernel⟩
instance : SNe "deep" "nought" := ⟨by decide +kernel⟩
instance : SNe "deep" "great" := ⟨by decide +kernel⟩
instance : SNe "deep" "dry" := ⟨by decide +kernel⟩
instance : SNe "deep" "value" := ⟨by decide +kernel⟩
instance : SNe "dry" "nought" := ⟨by decide +kernel⟩
instance : SNe "dry" "great" := ⟨by decide +kernel⟩
instance : SNe "dry" "deep" := ⟨by decide +kernel⟩
instance : SNe "dry" "value" := ⟨by decide +kernel⟩
instance : SNe "value" "nought" := ⟨by decide +kernel⟩
instance : SNe "value" "great" := ⟨by decide +kernel⟩
instance : SNe "value" "deep" := ⟨by decide +kernel⟩
instance : SNe "value" "dry" := ⟨by decide +kernel⟩
instance : SNe "" "twice" := ⟨by decide +kernel⟩
instance : SNe "" "name" := ⟨by decide +kernel⟩
instance : SNe "" "function" := ⟨by decide +kernel⟩
instance : SNe "" "count" := ⟨by decide +kernel⟩
instance : SNe "" "tall" := ⟨by decide +kernel⟩
instance : SNe "twice" "" := ⟨by decide +kernel⟩
instance : SNe "twice" "name" := ⟨by decide +kernel⟩
instance : SNe "twice" "function" := ⟨by decide +kernel⟩
instance : SNe "twice" "count" := ⟨by decide +kernel⟩
instance : SNe "twice" "tall" := ⟨by decide +kernel⟩
instance : SNe "name" "" := ⟨by decide +kernel⟩
instance : SNe "name" "twice" := ⟨by decide +kernel⟩
instance : SNe "name" "function" := ⟨by decide +kernel⟩
instance : SNe "name" "count" := ⟨by decide +kernel⟩
instance : SNe "name" "tall" := ⟨by decide +kernel⟩
instance : SNe "function" "" := ⟨by decide +kernel⟩
instance : SNe "function" "twice" := ⟨by decide +kernel⟩
instance : SNe "function" "name" := ⟨by decide +kernel⟩
instance : SNe "function" "count" := ⟨by decide +kernel⟩
instance : SNe "function" "tall" := ⟨by decide +kernel⟩
instance : SNe "count" "" := ⟨by decide +kernel⟩
instance : SNe "count" "twice" := ⟨by decide +kernel⟩
instance : SNe "count" "name" := ⟨by decide +kernel⟩
instance : SNe "count" "function" := ⟨by decide +kernel⟩
instance : SNe "count" "tall" := ⟨by decide +kernel⟩
instance : SNe "tall" "" := ⟨by decide +kernel⟩
instance : SNe "tall" "twice" := ⟨by decide +kernel⟩
instance : SNe "tall" "name" := ⟨by decide +kernel⟩
instance : SNe "tall" "function" := ⟨by decide +kernel⟩
instance : SNe "tall" "count" := ⟨by decide +kernel⟩
end CS

/-! CsComp: comprehensions and loops for use: what is walked by instances, a block as a context of its own. -/
namespace CS
open PySem L2
/-- Y runs where X runs -/
structure SameC (X Y : Cx) : Prop where
  prog : Y.prog = X.prog
  w : Y.w = X.w
  K : Y.K = X.K
  mg : Y.mg = X.mg
  base : Y.base = X.base
  A : Y.A = X.A
  calm : Y.calm = X.calm
theorem callB {X Y : Cx} {W : WX} {CX : CXT} {d c : Nat} {x : Str} {ps : List Str} {Rel : List Dat → Oc → Prop} {V L G B : List Str} (s : SameC X Y) (D : Def X.prog X.w X.K X.mg X.base CX d x ps (spD X.K Rel)) (hr : Rm c X.A) (hx : Lets CX Y W) (k : Kx Y V L G B) (m : Mm G x) (hd : d ≤ c) :
    CallC Y W x Rel := by
  obtain ⟨h1, h2, h3, h4, h5, h6, h7⟩ := s
  rw [← h1, ← h2, ← h3, ← h4, ← h5] at D
  rw [← h6] at hr
  exact callC D hr hx k m hd
theorem Rc.same {X Y : Cx} (s : SameC X Y) (r : Rc X) : Rc Y := ⟨by rw [s.A]; exact r.h⟩
theorem Cc.same {X Y : Cx} (s : SameC X Y) (r : Cc X) : Cc Y := ⟨by rw [s.calm]; exact r.h⟩
section
variable {X : Cx} {W : WX} {e a b c o tg iter elt cond : Expr} {es : List Expr} {ds : Slots} {M : Mem} {R : DV → Mem → Prop} {Xp : Value → Mem → Prop} {pos p p2 p3 apos : Pos} {V L G B : List Str}
variable {pn : Slots → Mem → Prop} {pr : DV → Mem → Prop} {pb pc : Slots → Mem → Prop} {px : Value → Slots → Mem → Prop}
/-! ### what is walked -/
def LstP (x : DV) (k : List Dat → Prop) : Prop := ∃ xs, x = .d (.lst xs) ∧ k xs
def TupP (x : DV) (k : List Dat → Prop) : Prop := ∃ xs, x = .d (.tup xs) ∧ k xs
instance {xs : List Dat} {k : List Dat → Prop} : Step (LstP (.d (.lst xs)) k) (k xs) := ⟨fun h => ⟨xs, rfl, h⟩⟩
instance {xs : List Dat} {k : List Dat → Prop} : Step (TupP (.d (.tup xs)) k) (k xs) := ⟨fun h => ⟨xs, rfl, h⟩⟩
def Rng1P (dvs : List DV) (k : Int → Prop) : Prop := ∃ j, dvs = [.d (.int j)] ∧ k j
def Rng2P (dvs : List DV) (k : Int → Int → Prop) : Prop := ∃ i j, dvs = [.d (.int i), .d (.int j)] ∧ k i j
instance {j : Int} {k : Int → Prop} : Step (Rng1P [.d (.int j)] k) (k j) := ⟨fun h => ⟨j, rfl, h⟩⟩
instance {i j : Int} {k : Int → Int → Prop} : Step (Rng2P [.d (.int i), .d (.int j)] k) (k i j) := ⟨fun h => ⟨i, j, rfl, h⟩⟩
theorem hiL {k : List Dat → Mem → Prop} (h : HE X W iter ds M (fun dv M1 => LstP dv fun xs => k xs M1) Xp) : HI X W tg iter ds M k Xp := hi_lst h
theorem hiT {k : List Dat → Mem → Prop} (h : HE X W iter ds M (fun dv M1 => TupP dv fun xs => k xs M1) Xp) : HI X W tg iter ds M k Xp := hi_tup h
instance {k : List Dat → Mem → Prop} [kc : Kc X V L G B] [m : MmC B "range"] [s : NS a] : Step (HI X W tg (.Call (.Name "range" p) [a] [] pos) ds M k Xp) (HA X W [a] ds M (fun dvs M1 => Rng1P dvs fun j => (-(2 ^ 62) ≤ j ∧ j < 2 ^ 62) ∧ k (rngD 0 j.toNat) M1) Xp) :=
  ⟨fun h => hi_rng1 kc.k m.h (fun n S F0 H0 F H σ I Q q x => h n S F0 H0 F H σ I Q (fun vs F' H' M' dvs s' I' o' ⟨j, e, hb, g⟩ => q vs F' H' M' dvs s' I' o' ⟨j, e, hb.1, hb.2, g⟩) x) (s.h [] X.env)⟩
instance {k : List Dat → Mem → Prop} [kc : Kc X V L G B] [m : MmC B "range"] [s : NS a] [s2 : NS b] : Step (HI X W tg (.Call (.Name "range" p) [a, b] [] pos) ds M k Xp)
    (HA X W [a, b] ds M (fun dvs M1 => Rng2P dvs fun i j => (-(2 ^ 62) ≤ i ∧ i < 2 ^ 62 ∧ -(2 ^ 62) ≤ j ∧ j < 2 ^ 62) ∧ k (rngD i (j - i).toNat) M1) Xp) :=
  ⟨fun h => hi_rng2 kc.k m.h h (by rw [s.h, s2.h]; rfl) (s2.h [] X.env)⟩

/-! ### comprehensions over one name -/
theorem blk_ok {S scope : Scope} {N : List Str} {own : List (Str × Nat)} (nn : X.N = N) (sc : X.env.scope = S) (h : blkC N S scope own = true) : BlkOk X.N X.env.scope scope own := by
  rw [nn, sc]
  exact blkOk_by h
theorem up_wipe : ∀ {ds es : Slots} {x : Str} {v : DV} {i : Nat}, Up ds x v es i → Up (wipe1 ds i) x v es i
  | _, _, _, _, _, .here => .here
  | _, _, _, _, _, .there h => .there (up_wipe h)
/-- what is asked of a block's element -/
def Blk (X : Cx) (V L G B : List Str) (Pr : Cx → Prop) : Prop := ∀ Y : Cx, SameC X Y → Kx Y V L G B → Pr Y
instance (priority := low) {acc : List Dat} : Step (Dn R acc M) (R (.d (.lst acc)) M) := ⟨.inl⟩
/-- what is asked of a comprehension over one name -/
def LcQ (X : Cx) (W : WX) (elt : Expr) (x : Str) (i : Nat) (p : Pos) (iter : Expr) (V' L' G' B' : List Str) (g : Nat → Dat → Dat) (ds : Slots) (M : Mem) (R : DV → Mem → Prop) (Xp : Value → Mem → Prop) : Prop :=
  HI X W (.Name x p) iter ds M (fun xs M1 => xs.length ≤ 1000000 ∧ (∀ D acc n y, xs[n]? = some y → UpP ds x i (.d y) fun ds2 => Blk X V' L' G' B' fun Y => HE Y W0 elt ds2 (Acc M1 D acc) (fun dv M3 => dv = .d (g n y) ∧ M3 = Acc M1 D acc) (fun _ _ => False)) ∧ Dn R (xs.mapIdx g) M1) Xp
instance {x : Str} {i : Nat} {V' L' G' B' : List Str} {g : Nat → Dat → Dat} : Step (LcQ X W elt x i p iter V' L' G' B' g ds M R Xp)
    (HI X W (.Name x p) iter ds M (fun xs M1 => xs.length ≤ 1000000 ∧ (∀ D acc n y, xs[n]? = some y → UpP ds x i (.d y) fun ds2 => Blk X V' L' G' B' fun Y => HE Y W0 elt ds2 (Acc M1 D acc) (fun dv M3 => dv = .d (g n y) ∧ M3 = Acc M1 D acc) (fun _ _ => False)) ∧ Dn R (xs.mapIdx g) M1) Xp) := ⟨fun h => h⟩
theorem lcQ {scope : Scope} {V' L' G' B' : List Str} {x : Str} {i : Nat} {g : Nat → Dat → Dat} (kb : BK X scope fun Y => Kx Y V' L' G' B')
    (hi : LcQ X W elt x i p iter V' L' G' B' g ds M R Xp) : HLC X W elt (.Name x p) iter scope [(x, i)] (gName i) ds M R Xp := by
  refine hlc_of (is := [i]) (t := gName i) (f := fName x i) (by simp) gs_name (fun n => ?_)
  obtain ⟨wi, pi, hw⟩ := hi n
  refine ⟨wi, pi, fun S F0 H0 F H σ I Q q x' => hw S F0 H0 F H σ I Q (fun J xs F' H' M' s' I' it lc => q J xs F' H' M' s' I' it ?_) x'⟩
  obtain ⟨hz, turn, done⟩ := lc
  refine ⟨hz, fun n acc => acc = (xs.take n).mapIdx g, by simp, fun D n y acc hy hacc => ?_, fun acc e => ?_⟩
  · obtain ⟨ds2, u, hb⟩ := turn D acc n y hy
    refine ⟨ds2, up_wipe u, fun s H C cl fp => he_imp (hb _ ⟨rfl, rfl, rfl, rfl, rfl, rfl, rfl⟩ (kb s H C cl fp)) ?_⟩
    rintro dv M3 ⟨rfl, rfl⟩
    refine ⟨rfl, _, rfl, ?_⟩
    have hn : n < xs.length := (List.getElem?_eq_some_iff.mp hy).1
    have e : xs.take (n + 1) = xs.take n ++ [y] := by
      rw [List.take_add_one, hy]
      rfl
    show acc ++ [g n y] = (xs.take (n + 1)).mapIdx g
    have hacc : acc = (xs.take n).mapIdx g := hacc
    rw [e, List.mapIdx_append, hacc]
    congr 1
    show [g n y] = [g (0 + (xs.take n).length) y]
    rw [List.length_take, Nat.min_eq_left (Nat.le_of_lt hn), Nat.zero_add]
  · have e : acc = (xs.take xs.length).mapIdx g := e
    rw [List.take_length] at e
    rw [e]
    exact done
theorem lcN {S scope : Scope} {N BB : List Str} {V' L' G' B' : List Str} {x : Str} {i : Nat} (g : Nat → Dat → Dat) (hc : X.calm = true) (nd : X.N.Nodup) (nn : X.N = N) (sc : X.env.scope = S) (hm : ∀ x ∈ BB, X.mg x = none)
    (h1 : blkC N S scope [(x, i)] = true) (h2 : kxB (relS S scope) N V' L' G' B' BB false = true) (hi1 : N[i]? = some x) (hl : Mm L' x)
    (hi : LcQ X W elt x i p iter V' L' G' B' g ds M R Xp)
    (hs : ∀ z, foldedSetIterable iter X.env z = pure z := by intro _; with_unfolding_all rfl) : HE X W (.ListComp elt [⟨.Name x p, iter, [], 0⟩] scope pos) ds M R Xp :=
  have kb := kx_blk (X := X) h2 sc nn hm
  he_hlc hc nd (blk_ok nn sc h1) (fun s H C cl fp => pg_nm (kb s H C cl fp) hl (by show X.N[i]? = _; rw [nn]; exact hi1)) (lcQ kb hi) hs
/-- y = [..] in one line -/
theorem lcS {S scope : Scope} {N BB : List Str} {V' L' G' B' : List Str} {x y : Str} {i j : Nat} {q spos : Pos} [k : Kc X V L G B] [pl : PlC ds y j] [m : MmC L y] (g : Nat → Dat → Dat) (hc : X.calm = true) (nn : X.N = N) (sc : X.env.scope = S) (hm : ∀ x ∈ BB, X.mg x = none)
    (h1 : blkC N S scope [(x, i)] = true) (h2 : kxB (relS S scope) N V' L' G' B' BB false = true) (hi1 : N[i]? = some x) (hl : Mm L' x)
    (h3 : S.kind = .function) (h6 : S.names.lookup y = some .local) (h4 : (q.line == pos.line) = true) (h5 : (scope.names.any fun (n, k) => n == y && (k == .local || k == .cell)) = false)
    (hi : LcQ X W elt x i p iter V' L' G' B' g ds M (fun dv M1 => UpP ds y j dv fun ds' => pn ds' M1) (fun cls M1 => px cls ds M1))
    (hs : ∀ z, foldedSetIterable iter X.env z = pure z := by intro _; with_unfolding_all rfl) : HS X W (.Assign [.Name y q] (.ListComp elt [⟨.Name x p, iter, [], 0⟩] scope pos) spos) ds M ⟨pn, pr, pb, pc, px⟩ :=
  have kb := kx_blk (X := X) h2 sc nn hm
  hs_hlc k.k m.h pl.h.name hc (blk_ok nn sc h1) (fun s H C cl fp => pg_nm (kb s H C cl fp) hl (by show X.N[i]? = _; rw [nn]; exact hi1)) (lcQ kb hi) (by rw [sc]; exact h3) (by rw [sc]; exact h6) h4 h5 hs
end
end CS
namespace CS
open PySem L2
theorem rngD_get {lo : Int} {m n : Nat} {y : Dat} (h : (rngD lo m)[n]? = some y) : n < m ∧ y = .int (lo + (n : Int)) := by
  unfold rngD at h
  rw [List.getElem?_map] at h
  by_cases hn : n < m
  · rw [List.getElem?_range hn] at h
    exact ⟨hn, (Option.some.inj h).symm⟩
  · rw [List.getElem?_eq_none (by simpa using hn)] at h
    cases h
theorem rngD_len (lo : Int) (m : Nat) : (rngD lo m).length = m := by simp [rngD]
theorem rngD_mapIdx (lo : Int) (m : Nat) (g : Nat → Dat → Dat) : (rngD lo m).mapIdx g = (List.range m).map fun n => g n (.int (lo + (n : Int))) := by
  refine List.ext_getElem? fun n => ?_
  rw [List.getElem?_mapIdx, List.getElem?_map]
  unfold rngD
  rw [List.getElem?_map]
  by_cases hn : n < m
  · rw [List.getElem?_range hn]
    rfl
  · rw [List.getElem?_eq_none (l := List.range m) (by simpa using hn)]
    rfl
end CS
namespace CS
open PySem L2
theorem cdiv_of {i j : Int} (h : 0 < j ∧ j < 1073741824) : CDiv i j := h
theorem cmulL {i j : Int} (h : -18446744073709551616 < i ∧ i < 18446744073709551616) : CMul i j := .inl h
theorem cmulR {i j : Int} (h : -18446744073709551616 < j ∧ j < 18446744073709551616) : CMul i j := .inr h
theorem cpow_of {i j : Int} (h : 0 ≤ j ∧ j ≤ 1000000 ∧ i.natAbs < 2 ^ 64) : CPow i j := h
end CS
namespace CS
open PySem L2
theorem iteD {p A B : Prop} [Decidable p] (h1 : p → A) (h2 : ¬ p → B) : if decide p = true then A else B := by
  by_cases h : p
  · rw [if_pos (decide_eq_true h)]; exact h1 h
  · rw [if_neg (by simpa using h)]; exact h2 h
theorem iteND {p A B : Prop} [Decidable p] (h1 : ¬ p → A) (h2 : p → B) : if (!decide p) = true then A else B := by
  by_cases h : p
  · rw [if_neg (by simpa using h)]; exact h2 h
  · rw [if_pos (by simpa using h)]; exact h1 h
theorem iteT {p A B : Prop} [Decidable p] (h : p) (a : A) : if decide p = true then A else B := by rw [if_pos (decide_eq_true h)]; exact a
theorem iteF {p A B : Prop} [Decidable p] (h : ¬ p) (a : B) : if decide p = true then A else B := by rw [if_neg (by simpa using h)]; exact a
end CS
namespace CS
open PySem L2
theorem relP_of {Rel : List Dat → Oc → Prop} {as : List Dat} {o : Oc} {k : Oc → Prop} (h : Rel as o) (q : k o) : RelP Rel as k := ⟨o, h, q⟩
theorem cutD_to (xs : List Dat) (n : Nat) : cutD xs none (some (n : Int)) = xs.take n := by
  unfold cutD
  rw [HT.sIx_nat, HT.sIx_none, List.drop_zero, Nat.sub_zero]
  by_cases h : n ≤ xs.length
  · rw [Nat.min_eq_left h]
  · rw [Nat.min_eq_right (by omega), List.take_of_length_le (Nat.le_refl _), List.take_of_length_le (by omega)]
theorem sldP_to {M : Mem} {xs : List Dat} {i : Int} {k : Dat → Prop} (h0 : 0 ≤ i) (h : k (.lst (xs.take i.toNat))) : SldP M (.d (.lst xs)) none (some i) k := by
  refine ⟨.lst (cutD xs none (some i)), .lst .dat, ?_⟩
  have e := cutD_to xs i.toNat
  rw [Int.toNat_of_nonneg h0] at e
  rw [e]
  exact h
theorem sldP_from {M : Mem} {xs : List Dat} {i : Int} {k : Dat → Prop} (h0 : 0 ≤ i) (h : k (.lst (xs.drop i.toNat))) : SldP M (.d (.lst xs)) (some i) none k := by
  refine ⟨.lst (cutD xs (some i) none), .lst .dat, ?_⟩
  have e := cutD_from xs i.toNat
  rw [Int.toNat_of_nonneg h0] at e
  rw [e]
  exact h
instance {M : Mem} {xs : List Dat} {i : Int} {n : Nat} {k : Dat → Prop} [l : IntLit i n] : Step (SldP M (.d (.lst xs)) none (some i) k) (k (.lst (xs.take n))) := ⟨fun h => by
  have e := l.h
  subst e
  exact sldP_to (Int.natCast_nonneg n) (by rw [Int.toNat_natCast]; exact h)⟩
instance {M : Mem} {xs : List Dat} {i : Int} {n : Nat} {k : Dat → Prop} [l : IntLit i n] : Step (SldP M (.d (.lst xs)) (some i) none k) (k (.lst (xs.drop n))) := ⟨fun h => by
  have e := l.h
  subst e
  exact sldP_from (Int.natCast_nonneg n) (by rw [Int.toNat_natCast]; exact h)⟩
theorem ixP_lst {M : Mem} {xs : List Dat} {i : Int} {d : Dat} {k : DV → Prop} (h : atI xs i = some d) (q : k (.d d)) : IxP M (.d (.lst xs)) (.d (.int i)) k := ⟨_, _, rfl, .lst h, q⟩
theorem ixP_tup {M : Mem} {xs : List Dat} {i : Int} {d : Dat} {k : DV → Prop} (h : atI xs i = some d) (q : k (.d d)) : IxP M (.d (.tup xs)) (.d (.int i)) k := ⟨_, _, rfl, .tup h, q⟩
end CS

/-! CsEnd: a def of the top by its place, and a law's end. -/
namespace CS
open PySem L2
/-- the def x stands in the main module -/
def FunAt (K : PySem.W.Frag) (mg : Str → Option Value) (x qual : Str) (st : Stmt) : Prop := ∃ f fd, Fun K x qual st f fd ∧ mg x = some (.ref f)
/-- its parameters are plain names -/
def Plain (st : Stmt) (x qual : Str) (ps : List Str) : Prop := ∀ (s : Shared) (kV doc pm : Value) (an : Option Addr) (cdv ct : Value) (us : List Value), us.length = ps.length → BindsTo s (PySem.W.fnOf x qual (defArgs st) (defBody st) (defScope st) .none kV doc pm an cdv ct) ⟨us, []⟩ (ps.zip us)
section
variable {P : Program} {w : World} {K : PySem.W.Frag} {mg : Str → Option Value} {base : Heap} {CX : CXT} {d : Nat} {x qual : Str} {ps : List Str} {sp : Sp} {st : Stmt}
theorem def_of (T : FunAt K mg x qual st) (b : ∀ f fd, Fun K x qual st f fd → Binds K fd ps []) (h : ∀ {f fd}, Fun K x qual st f fd → FnR P w K mg base CX d f fd ps sp) : Def P w K mg base CX d x ps sp := by
  obtain ⟨f, fd, F, m⟩ := T
  exact ⟨f, fd, h F, m, F.kp, b f fd F⟩
theorem fnr_ok {f : Addr} {fd : FuncData} {k : Nat} (F : FnR P w K mg base CX d f fd ps sp) (h1 : d + 25 ≤ 3 * k) (h2 : 3 * d + 800 ≤ 16 * k) : FnOk P w K mg base CX k f fd ps sp :=
  ⟨F.len, fun A outer s H args us vs Q E hr he hb hv hs => F.go A outer s H args us vs Q E ⟨hr.hd, by have := hr.dp; omega, by have := hr.un; omega⟩ he hb hv hs⟩
end
theorem walk_cs {l : PySem.W.OpenLaw} {k d : Nat} {q : Program} {loose : List Str} {XP : (Str → Option Value) → Heap → Prop} {YP : World → Heap → Prop} {dr : DefRec} {K : Params → PySem.W.Frag} {Rel : List Dat → Oc → Prop} (hn : l.most = some 63) (hdf : dr.params.defaults = [])
    (h1 : d + 25 ≤ 3 * k) (h2 : 3 * d + 800 ≤ 16 * k) (hr : Room k callerA)
    (hY : ∀ (w : World) (h : Heap), YP w h → (K w.params).In h)
    (F : ∀ (w : World) (mg : Str → Option Value) (fa : Addr) (h : Heap), (K w.params).In h → h.Ns mainGlobals mg → mg dr.name = some (.ref fa) →
      ∃ fd : FuncData, (∀ (s : Shared) (u : Value), BindsTo s fd ⟨[u], []⟩ [("_law_script", u)]) ∧ ∀ base : Heap, (K w.params).In base → base.Ns mainGlobals mg → FnR l.prog w (K w.params) mg base CX0 d fa fd ["_law_script"] (spD (K w.params) Rel))
    (hR : ∀ ns : List Int, ns.length ≤ 63 → Rel [.scr ns] (.val (.bl true))) :
    PySem.W.WalkO q loose XP YP l.row.toRowW dr [] (fun f vs => PySem.call f vs) :=
  L2.walk_of (n := 63) (k := k) (x := "_law_script") (CX := fun _ => CX0) (sp := fun w => spD (K w.params) Rel) hn (by decide) hdf hr hY
    (fun w mg fa h KX G hmg => (F w mg fa h KX G hmg).elim fun fd ⟨b, g⟩ => ⟨fd, b, fun base kb nb => fnr_ok (g base kb nb) h1 h2⟩)
    (fun w H a ns hl _ hS => ⟨H, [.scr ns], .val (.bl true), fun _ _ e => e, .cons (.scr hS) .nil, hR ns hl, fun v F' H' _ r => by cases r; rfl⟩) fun _ _ _ _ _ z => z
end CS

/-! CsExc: own exceptions raised, several except clauses. -/
namespace CS
open PySem L2
/-- an own class over ValueError, by its name -/
structure OwnE (K : PySem.W.Frag) (mg : Str → Option Value) (x : Str) (C : Addr) : Prop where
  g : mg x = some (.ref C)
  q : PySem.W.excIn K C [.type "ValueError", .type "Exception", .type "BaseException", .type "object"] "ValueError.__new__" = true
  k : PySem.W.keepIn K (.ref C) = true
  b : PySem.W.subIn K (.ref C) (.type "BaseException") = some true
  t : PySem.W.typeIn K (.ref C) = some (.type "type")
  h : PySem.W.hasDictIn K C = true
class OwnC (X : Cx) (x : Str) (C : outParam Addr) : Prop where
  h : OwnE X.K X.mg x C
class Tk (X : Cx) (W : WX) : Prop where
  h : Takes X W
/-- is one class under another one -/
class SubC (X : Cx) (c d : Addr) (b : outParam Bool) : Prop where
  h : PySem.W.subIn X.K (.ref c) (.ref d) = some b
section
variable {X : Cx} {W : WX} {e a b c o : Expr} {es : List Expr} {ds : Slots} {M : Mem} {R : DV → Mem → Prop} {Xp : Value → Mem → Prop} {pos p p2 p3 apos : Pos} {V L G B : List Str}
variable {pn : Slots → Mem → Prop} {pr : DV → Mem → Prop} {pb pc : Slots → Mem → Prop} {px : Value → Slots → Mem → Prop}
theorem hs_raise {x m : Str} {j : Nat} {C : Addr} (hc : X.calm = true) (tk : Takes X W) (o : OwnE X.K X.mg x C) (k : Kx X V L G B) (mm : Mm G x) (h : px (.ref C) ds M) :
    HS X W (.Raise (some (.Call (.Name x p) [.Constant (.str m) j p2] [] p3)) none pos) ds M ⟨pn, pr, pb, pc, px⟩ :=
  hs_of (ps_raise hc tk (pmk_own PySem.F.excBase_ValueError o.q o.g o.k (raises_own o.b o.t) (k.gl x mm.mem).1 (k.gl x mm.mem).2)) fun n S F0 H0 F H σ D I g1 g2 g3 g4 g5 => g5 (.ref C) F H M σ ds (.refl _) I rfl h
instance {x m : Str} {j : Nat} {C : Addr} [c : Cc X] [t : Tk X W] [o : OwnC X x C] [k : Kc X V L G B] [mm : MmC G x] :
    Step (HS X W (.Raise (some (.Call (.Name x p) [.Constant (.str m) j p2] [] p3)) none pos) ds M ⟨pn, pr, pb, pc, px⟩) (px (.ref C) ds M) := ⟨hs_raise c.h t.h o.h k.k mm.h⟩
/-! ### except clauses -/
inductive Hds (X : Cx) : List ExceptHandler → List (Addr × List Stmt) → Prop
  | nil : Hds X [] []
  | cons {x : Str} {c : Addr} {b₀ : Stmt} {suite : List Stmt} {np pos' : Pos} {hds : List ExceptHandler} {l : List (Addr × List Stmt)} (o : OwnE X.K X.mg x c) (hc : Gl X x ∧ (x == ("__debug__" : Str)) = false) (r : Hds X hds l) :
      Hds X (.ExceptHandler (some (.Name x np)) none (b₀ :: suite) pos' :: hds) ((c, b₀ :: suite) :: l)
class HdsC (X : Cx) (hds : List ExceptHandler) (l : outParam (List (Addr × List Stmt))) : Prop where
  h : Hds X hds l
instance : HdsC X [] [] := ⟨.nil⟩
instance {x : Str} {c : Addr} {b₀ : Stmt} {suite : List Stmt} {np pos' : Pos} {hds : List ExceptHandler} {l : List (Addr × List Stmt)} [o : OwnC X x c] [k : Kc X V L G B] [mm : MmC G x] [r : HdsC X hds l] :
    HdsC X (.ExceptHandler (some (.Name x np)) none (b₀ :: suite) pos' :: hds) ((c, b₀ :: suite) :: l) := ⟨.cons o.h (k.k.gl x mm.h.mem) r.h⟩
/-- Y runs as X does, within a try -/
structure TrC (X Y : Cx) : Prop where
  prog : Y.prog = X.prog
  w : Y.w = X.w
  K : Y.K = X.K
  mg : Y.mg = X.mg
  base : Y.base = X.base
  A : Y.A = X.A
  calm : Y.calm = X.calm
  N : Y.N = X.N
  env : Y.env = X.env
  fn : Y.fn = X.fn
  outer : Y.outer = X.outer
  stack : Y.stack = X.stack
  pass : PassesOwn (model Y.prog Y.w) Y.A Y.env Y.xe
/-- a suite's context -/
structure SuC (X Y : Cx) : Prop where
  prog : Y.prog = X.prog
  w : Y.w = X.w
  K : Y.K = X.K
  mg : Y.mg = X.mg
  base : Y.base = X.base
  N : Y.N = X.N
  env : Y.env = X.env
  fn : Y.fn = X.fn
def TrQ (X : Cx) (Pr : Cx → WX → Prop) : Prop := ∀ Y W', TrC X Y → Takes Y W' → Pr Y W'
def SuQ (X : Cx) (Pr : Cx → Prop) : Prop := ∀ Y, SuC X Y → Pr Y
theorem Kx.same {X Y : Cx} {V L G B : List Str} (k : Kx X V L G B) (h1 : Y.N = X.N) (h2 : Y.env = X.env) (h3 : Y.mg = X.mg) (h4 : Y.fn = X.fn) : Kx Y V L G B := by
  obtain ⟨a, b, c, d, e⟩ := k
  refine ⟨by rw [h1]; exact a, fun x hx => by rw [h2]; exact b x hx, fun x hx => ?_, fun x hx => ?_, fun x hx => by rw [h2, h4]; exact e x hx⟩
  · obtain ⟨u, v⟩ := c x hx
    refine ⟨?_, v⟩
    have u : X.env.scope.names.lookup x = _ := u
    show Y.env.scope.names.lookup x = _
    rw [h2]; exact u
  · obtain ⟨u, v, w⟩ := d x hx
    refine ⟨?_, by rw [h3]; exact v, w⟩
    have u : X.env.scope.names.lookup x = _ := u
    show Y.env.scope.names.lookup x = _
    rw [h2]; exact u
theorem TrC.kx {X Y : Cx} {V L G B : List Str} (t : TrC X Y) (k : Kx X V L G B) : Kx Y V L G B := k.same t.N t.env t.mg t.fn
theorem SuC.kx {X Y : Cx} {V L G B : List Str} (t : SuC X Y) (k : Kx X V L G B) : Kx Y V L G B := k.same t.N t.env t.mg t.fn
theorem TrC.same {X Y : Cx} (t : TrC X Y) : SameC X Y := ⟨t.prog, t.w, t.K, t.mg, t.base, t.A, t.calm⟩
def HandQ (X : Cx) : List (Addr × List Stmt) → Value → Slots → Mem → Po → Prop
  | [], cls, ds, M, P => P.x cls ds M
  | (c, suite) :: r, cls, ds, M, P => ∃ b, PySem.W.subIn X.K cls (.ref c) = some b ∧ if b = true then (SuQ X fun Y => HSs Y W0 suite ds M ⟨P.n, P.r, P.b, P.c, fun _ _ _ => False⟩) else HandQ X r cls ds M P
def tsOf (X : Cx) (suite : List Stmt) (a : Addr) (cls : Value) (d : Option Addr) : TS := fun D σ H => ∀ oe pn, Zc cls d oe → (∃ vs, oe.data = .fields vs) → tSs (X.suite a ((a, oe) :: pn)) suite D σ H
def wh (X : Cx) (l : List (Addr × List Stmt)) : List (Value × (Addr → Value → Option Addr → TS)) := l.map fun q => (.ref q.1, tsOf X q.2)
theorem Hds.ok {hds : List ExceptHandler} {l : List (Addr × List Stmt)} (h : Hds X hds l) : HdsOk X hds (wh X l) := by
  induction h with
  | nil => exact .nil
  | cons o hc r ih =>
    exact .cons ⟨hc.1, hc.2, .inl o.g⟩ (fun a oe cls d pn z f => ⟨fun pins s σ H D I h => h oe pn z f pins s I⟩) ih
theorem Hds.own {hds : List ExceptHandler} {l : List (Addr × List Stmt)} (h : Hds X hds l) : ∀ q ∈ l, ∃ x, OwnE X.K X.mg x q.1 := by
  induction h with
  | nil => exact fun q z => absurd z (by simp)
  | cons o hc r ih =>
    intro q z
    rcases List.mem_cons.mp z with z | z
    · subst z; exact ⟨_, o⟩
    · exact ih q z
theorem wMany_of {S : Addr → Prop} {F0 H0 F H : Hp} {σ : L2.St} {D : Ends} {cls : Value} {P : Po} : ∀ {l : List (Addr × List Stmt)}, (∀ q ∈ l, ∃ x, OwnE X.K X.mg x q.1) → X.N = ds.map (·.1) → In X.K S F0 H0 F H M σ ds → HandQ X l cls ds M P →
    (∀ F' H' M' σ' ds', Same F F' → In X.K S F0 H0 F' H' M' σ' ds' → ds'.map (·.1) = ds.map (·.1) → P.n ds' M' → D.nx σ' H') →
    (∀ v F' H' M' σ' ds' dv, Same F F' → In X.K S F0 H0 F' H' M' σ' ds' → VOk X.K F' v dv → P.r dv M' → D.rt v H') →
    (∀ F' H' M' σ' ds', Same F F' → In X.K S F0 H0 F' H' M' σ' ds' → ds'.map (·.1) = ds.map (·.1) → P.b ds' M' → D.bk σ' H') →
    (∀ F' H' M' σ' ds', Same F F' → In X.K S F0 H0 F' H' M' σ' ds' → ds'.map (·.1) = ds.map (·.1) → P.c ds' M' → D.ct σ' H') →
    (∀ cls F' H' M' σ' ds', Same F F' → In X.K S F0 H0 F' H' M' σ' ds' → ds'.map (·.1) = ds.map (·.1) → P.x cls ds' M' → W cls none σ' H') → wMany X.K W D (wh X l) cls none σ H
  | [], _, n, I, h, g1, g2, g3, g4, g5 => g5 cls F H M σ ds (.refl _) I rfl h
  | (c, suite) :: r, ow, n, I, h, g1, g2, g3, g4, g5 => by
    obtain ⟨b, hb, h⟩ := h
    obtain ⟨x, o⟩ := ow (c, suite) List.mem_cons_self
    refine ⟨b, PySem.W.exm_ref o.b o.h o.t hb, fun e => ?_, fun e => ?_⟩
    · rw [if_pos e] at h
      exact fun a ha oe pn z f => h (X.suite a ((a, oe) :: pn)) ⟨rfl, rfl, rfl, rfl, rfl, rfl, rfl, rfl⟩ n S F0 H0 F H σ D I g1 g2 g3 g4 fun _ _ _ _ _ _ _ _ _ z => z.elim
    · rw [if_neg (by rw [e]; decide)] at h
      exact wMany_of (fun q hq => ow q (List.mem_cons_of_mem _ hq)) n I h g1 g2 g3 g4 g5
theorem hs_try {body : List Stmt} {h₀ : ExceptHandler} {hds : List ExceptHandler} {l : List (Addr × List Stmt)} (hs : X.stack = X.env :: X.outer) (hf : X.env.frame = some X.env.locals) (tk : Takes X W) (hh : Hds X (h₀ :: hds) l)
    (h : TrQ X fun Y W' => HSs Y W' body ds M ⟨pn, pr, pb, pc, fun cls ds' M' => HandQ X l cls ds' M' ⟨pn, pr, pb, pc, px⟩⟩) :
    HS X W (.Try body (h₀ :: hds) [] [] pos) ds M ⟨pn, pr, pb, pc, px⟩ :=
  hs_of (ps_try_many (tb := fun W' D σ H => ∀ pns xe, Takes (X.tr pns xe) W' → PassesOwn (model X.prog X.w) X.A X.env xe → tSs (X.tr pns xe) body D σ H) hs hf tk
    (fun W' pns xe tk' pass => ⟨fun pins s σ H D I h => h pns xe tk' pass pins s I⟩) hh.ok) fun n S F0 H0 F H σ D I g1 g2 g3 g4 g5 pns xe tk' pass =>
    h (X.tr pns xe) _ ⟨rfl, rfl, rfl, rfl, rfl, rfl, rfl, rfl, rfl, rfl, rfl, rfl, pass⟩ tk' n S F0 H0 F H σ D I g1 g2 g3 g4 fun cls F' H' M' σ' ds' s1 I1 n1 q1 =>
      wMany_of hh.own (n.trans n1.symm) I1 q1 (fun F2 H2 M2 σ2 ds2 s2 I2 n2 q2 => g1 F2 H2 M2 σ2 ds2 (s1.trans s2) I2 (n2.trans n1) q2) (fun v F2 H2 M2 σ2 ds2 dv s2 I2 o2 q2 => g2 v F2 H2 M2 σ2 ds2 dv (s1.trans s2) I2 o2 q2)
        (fun F2 H2 M2 σ2 ds2 s2 I2 n2 q2 => g3 F2 H2 M2 σ2 ds2 (s1.trans s2) I2 (n2.trans n1) q2) (fun F2 H2 M2 σ2 ds2 s2 I2 n2 q2 => g4 F2 H2 M2 σ2 ds2 (s1.trans s2) I2 (n2.trans n1) q2)
        fun cls F2 H2 M2 σ2 ds2 s2 I2 n2 q2 => g5 cls F2 H2 M2 σ2 ds2 (s1.trans s2) I2 (n2.trans n1) q2
/-- the frame stands on top -/
class Stk (X : Cx) : Prop where
  s : X.stack = X.env :: X.outer
  f : X.env.frame = some X.env.locals
theorem TrC.stk {X Y : Cx} (t : TrC X Y) (k : Stk X) : Stk Y := ⟨by rw [t.stack, t.env, t.outer]; exact k.s, by rw [t.env]; exact k.f⟩
instance {body : List Stmt} {h₀ : ExceptHandler} {hds : List ExceptHandler} {l : List (Addr × List Stmt)} [s : Stk X] [t : Tk X W] [hh : HdsC X (h₀ :: hds) l] :
    Step (HS X W (.Try body (h₀ :: hds) [] [] pos) ds M ⟨pn, pr, pb, pc, px⟩) (TrQ X fun Y W' => HSs Y W' body ds M ⟨pn, pr, pb, pc, fun cls ds' M' => HandQ X l cls ds' M' ⟨pn, pr, pb, pc, px⟩⟩) := ⟨hs_try s.s s.f t.h hh.h⟩
instance {cls : Value} {P : Po} : Step (HandQ X [] cls ds M P) (P.x cls ds M) := ⟨fun h => h⟩
theorem handY {c d : Addr} {suite : List Stmt} {r : List (Addr × List Stmt)} {P : Po} (s : PySem.W.subIn X.K (.ref d) (.ref c) = some true) (h : SuQ X fun Y => HSs Y W0 suite ds M ⟨P.n, P.r, P.b, P.c, fun _ _ _ => False⟩) : HandQ X ((c, suite) :: r) (.ref d) ds M P := ⟨_, s, by rw [if_pos rfl]; exact h⟩
theorem handN {c d : Addr} {suite : List Stmt} {r : List (Addr × List Stmt)} {P : Po} (s : PySem.W.subIn X.K (.ref d) (.ref c) = some false) (h : HandQ X r (.ref d) ds M P) : HandQ X ((c, suite) :: r) (.ref d) ds M P := ⟨_, s, by rw [if_neg (by decide)]; exact h⟩
instance {c d : Addr} {suite : List Stmt} {r : List (Addr × List Stmt)} {P : Po} [s : SubC X d c true] : Step (HandQ X ((c, suite) :: r) (.ref d) ds M P) (SuQ X fun Y => HSs Y W0 suite ds M ⟨P.n, P.r, P.b, P.c, fun _ _ _ => False⟩) := ⟨handY s.h⟩
instance {c d : Addr} {suite : List Stmt} {r : List (Addr × List Stmt)} {P : Po} [s : SubC X d c false] : Step (HandQ X ((c, suite) :: r) (.ref d) ds M P) (HandQ X r (.ref d) ds M P) := ⟨handN s.h⟩
end
end CS

/-! CsIns: instances: attributes, methods, making; defs over things that may change (spG). -/
namespace CS
open PySem L2
section
variable {K : PySem.W.Frag} {F : Hp}
def putD (f : Str) (y : DV) : List (Str × DV) → List (Str × DV)
  | [] => [(f, y)]
  | (g, x) :: r => if g = f then (g, y) :: r else (g, x) :: putD f y r
theorem VF.len : ∀ {us : List (Str × V)} {fs : List (Str × DV)}, VF K F us fs → us.length = fs.length
  | _, _, .nil => rfl
  | _, _, .cons _ r => congrArg (· + 1) (VF.len r)
theorem VF.look {f : Str} {dv : DV} : ∀ {us : List (Str × V)} {fs : List (Str × DV)}, VF K F us fs → fs.lookup f = some dv → ∃ v, us.lookup f = some v ∧ VOk K F v dv
  | _, _, .nil, e => by cases e
  | _, _, @VF.cons _ _ k v d _ _ h r, e => by
    rw [List.lookup_cons] at e ⊢
    cases hk : f == k with
    | true =>
      rw [hk] at e
      cases e
      exact ⟨_, rfl, h⟩
    | false =>
      rw [hk] at e
      exact VF.look r e
theorem VF.lookN {f : Str} : ∀ {us : List (Str × V)} {fs : List (Str × DV)}, VF K F us fs → fs.lookup f = none → us.lookup f = none
  | _, _, .nil, _ => rfl
  | _, _, @VF.cons _ _ k v d _ _ h r, e => by
    rw [List.lookup_cons] at e ⊢
    cases hk : f == k with
    | true =>
      rw [hk] at e
      cases e
    | false =>
      rw [hk] at e
      exact VF.lookN r e
theorem VF.put {f : Str} {y : V} {dv : DV} (hy : VOk K F y dv) : ∀ {us : List (Str × V)} {fs : List (Str × DV)}, VF K F us fs → VF K F (putF f y us) (putD f dv fs)
  | _, _, .nil => .cons hy .nil
  | _, _, @VF.cons _ _ k v d us fs h r => by
    show VF K F (if k = f then (k, y) :: us else (k, v) :: putF f y us) (if k = f then (k, dv) :: fs else (k, d) :: putD f dv fs)
    split
    · exact .cons hy r
    · exact .cons h (VF.put hy r)
end
/-- the class at C is a plain one -/
class ClsC (X : Cx) (C : Addr) : Prop where
  h : Cls X.K C
class NoC (X : Cx) (C : Addr) (f : Str) : Prop where
  h : NoAttr X.K C f
/-! ### places in Mem -/
class AtM (M : Mem) (p : Addr) (i : outParam Nat) (m : outParam MO) : Prop where
  h : M[i]? = some (p, m)
instance (priority := high) {p : Addr} {m : MO} {M : Mem} : AtM ((p, m) :: M) p 0 m := ⟨rfl⟩
instance {p : Addr} {m : MO} {q : Addr × MO} {M : Mem} {i : Nat} [a : AtM M p i m] : AtM (q :: M) p (i + 1) m := ⟨by rw [List.getElem?_cons_succ]; exact a.h⟩
class SetC (M : Mem) (i : Nat) (e : Addr × MO) (M' : outParam Mem) : Prop where
  h : M.set i e = M'
instance {p : Addr × MO} {M : Mem} {e : Addr × MO} : SetC (p :: M) 0 e (e :: M) := ⟨rfl⟩
instance {p : Addr × MO} {M M' : Mem} {i : Nat} {e : Addr × MO} [s : SetC M i e M'] : SetC (p :: M) (i + 1) e (p :: M') := ⟨by rw [List.set_cons_succ, s.h]⟩
class LkF (fs : List (Str × DV)) (f : Str) (dv : outParam (Option DV)) : Prop where
  h : fs.lookup f = dv
instance {f : Str} : LkF [] f none := ⟨rfl⟩
instance (priority := high) {f : Str} {v : DV} {r : List (Str × DV)} : LkF ((f, v) :: r) f (some v) := ⟨by rw [List.lookup_cons, beq_self_eq_true]⟩
instance {f g : Str} {v : DV} {r : List (Str × DV)} {o : Option DV} [n : SNe f g] [l : LkF r f o] : LkF ((g, v) :: r) f o := ⟨by rw [List.lookup_cons, show (f == g) = false from by simpa using n.h]; exact l.h⟩
class PutC (fs : List (Str × DV)) (f : Str) (y : DV) (gs : outParam (List (Str × DV))) : Prop where
  h : putD f y fs = gs
instance {f : Str} {y : DV} : PutC [] f y [(f, y)] := ⟨rfl⟩
instance (priority := high) {f : Str} {y v : DV} {r : List (Str × DV)} : PutC ((f, v) :: r) f y ((f, y) :: r) := ⟨by show (if f = f then _ else _) = _; rw [if_pos rfl]⟩
instance {f g : Str} {y v : DV} {r s : List (Str × DV)} [n : SNe f g] [l : PutC r f y s] : PutC ((g, v) :: r) f y ((g, v) :: s) := ⟨by show (if g = f then _ else _) = _; rw [if_neg (fun e => n.h e.symm), l.h]⟩
/-- what stands at a changeable thing -/
def ObjP (M : Mem) (x : DV) (k : Addr → Nat → MO → Prop) : Prop := ∃ p i m, x = .m p ∧ M[i]? = some (p, m) ∧ k p i m
instance {M : Mem} {p : Addr} {i : Nat} {m : MO} {k : Addr → Nat → MO → Prop} [a : AtM M p i m] : Step (ObjP M (.m p) k) (k p i m) := ⟨fun h => ⟨p, i, m, rfl, a.h, h⟩⟩
def InsP (X : Cx) (m : MO) (k : Addr → Addr → List (Str × DV) → Prop) : Prop := ∃ C dx fs, m = .ins C dx fs ∧ Cls X.K C ∧ fs.length < 1000 ∧ k C dx fs
class Sm (n : Nat) : Prop where
  h : n < 1000
instance {X : Cx} {C dx : Addr} {fs : List (Str × DV)} {k : Addr → Addr → List (Str × DV) → Prop} [c : ClsC X C] : Step (InsP X (.ins C dx fs) k) (fs.length < 1000 ∧ k C dx fs) := ⟨fun h => ⟨C, dx, fs, rfl, c.h, h⟩⟩
def FldP (X : Cx) (C : Addr) (f : Str) (fs : List (Str × DV)) (k : DV → Prop) : Prop := NoAttr X.K C f ∧ ∃ dv, fs.lookup f = some dv ∧ k dv
instance {X : Cx} {C : Addr} {f : Str} {fs : List (Str × DV)} {dv : DV} {k : DV → Prop} [n : NoC X C f] [l : LkF fs f (some dv)] : Step (FldP X C f fs k) (k dv) := ⟨fun h => ⟨n.h, dv, l.h, h⟩⟩
def PutP (X : Cx) (C : Addr) (f : Str) (fs : List (Str × DV)) (y : DV) (k : List (Str × DV) → Prop) : Prop := NoAttr X.K C f ∧ k (putD f y fs)
instance {X : Cx} {C : Addr} {f : Str} {fs gs : List (Str × DV)} {y : DV} {k : List (Str × DV) → Prop} [n : NoC X C f] [l : PutC fs f y gs] : Step (PutP X C f fs y k) (k gs) := ⟨fun h => ⟨n.h, by rw [l.h]; exact h⟩⟩
def SetP (M : Mem) (i : Nat) (e : Addr × MO) (k : Mem → Prop) : Prop := k (M.set i e)
instance {M M' : Mem} {i : Nat} {e : Addr × MO} {k : Mem → Prop} [s : SetC M i e M'] : Step (SetP M i e k) (k M') := ⟨fun h => by show k (M.set i e); rw [s.h]; exact h⟩
section
variable {X : Cx} {W : WX} {e a b c o : Expr} {es : List Expr} {ds : Slots} {M : Mem} {R : DV → Mem → Prop} {Xp : Value → Mem → Prop} {pos p p2 p3 apos : Pos} {V L G B : List Str} {f : Str}
variable {pn : Slots → Mem → Prop} {pr : DV → Mem → Prop} {pb pc : Slots → Mem → Prop} {px : Value → Slots → Mem → Prop}
theorem he_fld (h : HE X W o ds M (fun x M1 => ObjP M1 x fun _ _ m => InsP X m fun C _ fs => FldP X C f fs fun dv => R dv M1) Xp) (hb : attributeBase o f X.env (eval o X.env) = eval o X.env) : HE X W (.Attribute o f pos) ds M R Xp :=
  he_of (pe_fld (pe_t X o) hb) fun n S F0 H0 F H σ I Q q x => h n S F0 H0 F H σ I _ (fun v F1 H1 M1 dv s1 I1 o1 g1 => by
    obtain ⟨p, i, m, rfl, hi, C, dx, fs, rfl, cl, _, na, dv2, hl, g⟩ := g1
    have o1 : v = .ref p := o1
    subst o1
    obtain ⟨_, u, hu, ou⟩ := I1.mem _ (List.mem_of_getElem? hi)
    cases ou with
    | ins vf =>
      obtain ⟨v, hv, ov⟩ := vf.look hl
      exact ⟨p, C, dx, _, v, rfl, hu, cl, na, hv, q v F1 H1 M1 dv2 s1 I1 ov g⟩) x
/-- an object's base is no super() -/
class AB (o : Expr) : Prop where
  h : ∀ (f : Str) (env : Env) (z : Sem Value), attributeBase o f env z = z
instance {x : Str} {p : Pos} : AB (.Name x p) := ⟨fun _ _ _ => rfl⟩
instance {a : Expr} {x : Str} {p : Pos} : AB (.Attribute a x p) := ⟨fun _ _ _ => rfl⟩
instance {a b : Expr} {p : Pos} : AB (.Subscript a b p) := ⟨fun _ _ _ => rfl⟩
instance [ab : AB o] : Step (HE X W (.Attribute o f pos) ds M R Xp) (HE X W o ds M (fun x M1 => ObjP M1 x fun _ _ m => InsP X m fun C _ fs => FldP X C f fs fun dv => R dv M1) Xp) := ⟨fun h => he_fld h (ab.h _ _ _)⟩
theorem hs_fld {p' : Pos} (h : HE X W e ds M (fun y M1 => HE X W o ds M1 (fun x M2 => ObjP M2 x fun p i m => InsP X m fun C dx fs => PutP X C f fs y fun gs => SetP M2 i (p, .ins C dx gs) fun M3 => pn ds M3) (fun cls M2 => px cls ds M2)) (fun cls M1 => px cls ds M1))
    (hs : swapsWith e (some (.Attribute o f p')) pos.line X.env = pure false) : HS X W (.Assign [.Attribute o f p'] e pos) ds M ⟨pn, pr, pb, pc, px⟩ :=
  hs_of (ps_fld (pe_t X o) (pe_t X e) hs) fun n S F0 H0 F H σ D I g1 g2 g3 g4 g5 => h n S F0 H0 F H σ I _ (fun y F1 H1 M1 dy s1 I1 oy q1 =>
    q1 n S F0 H0 F1 H1 σ I1 _ (fun v F2 H2 M2 dv s2 I2 o2 q2 => by
      obtain ⟨p, i, m, rfl, hi, C, dx, fs, rfl, cl, hl, na, q⟩ := q2
      have o2 : v = .ref p := o2
      subst o2
      obtain ⟨_, u, hu, ou⟩ := I2.mem _ (List.mem_of_getElem? hi)
      cases ou with
      | ins vf =>
        refine ⟨p, C, dx, _, rfl, hu, cl, na, by rw [vf.len]; exact hl, ?_⟩
        exact g1 F2 _ _ σ ds (s1.trans s2) (I2.setM hi (.ins (vf.put (oy.mono s2)))) rfl q) fun cls F2 H2 M2 s2 I2 q2 => g5 cls F2 H2 M2 σ ds (s1.trans s2) I2 rfl q2) fun cls F1 H1 M1 s1 I1 q1 => g5 cls F1 H1 M1 σ ds s1 I1 rfl q1
instance {p' : Pos} [nc : NC e] : Step (HS X W (.Assign [.Attribute o f p'] e pos) ds M ⟨pn, pr, pb, pc, px⟩)
    (HE X W e ds M (fun y M1 => HE X W o ds M1 (fun x M2 => ObjP M2 x fun p i m => InsP X m fun C dx fs => PutP X C f fs y fun gs => SetP M2 i (p, .ins C dx gs) fun M3 => pn ds M3) (fun cls M2 => px cls ds M2)) (fun cls M1 => px cls ds M1)) := ⟨fun h => hs_fld h (nc.h _ _ _)⟩
end
/-! ### defs over things that may change -/
/-- what is asked of a call: the mutable things, the arguments, what is wanted of its worth, what of an exception -/
abbrev PreG := Mem → List DV → (DV → Mem → Prop) → (Value → Mem → Prop) → Prop
def spG (K : PySem.W.Frag) (Pre : PreG) : Sp := fun vs H Q E => ∃ F M as rt ex, In K (fun a => a ∈ M.map (·.1)) F H F H M [] [] ∧ VL K F vs as ∧ Pre M as rt ex ∧
  (∀ v F' H' M' dv, In K (fun a => a ∈ M.map (·.1)) F H F' H' M' [] [] → VOk K F' v dv → rt dv M' → Q v H') ∧ (∀ cls F' H' M', In K (fun a => a ∈ M.map (·.1)) F H F' H' M' [] [] → ex cls M' → E cls none H')
/-- back from a call: the callee's end is a state of the caller -/
theorem In.back {K : PySem.W.Frag} {S : Addr → Prop} {F0 H0 F H F' H' : Hp} {M M' : Mem} {σ : L2.St} {ds : Slots} (I : In K S F0 H0 F H M σ ds) (J : In K (fun a => a ∈ M.map (·.1)) F H F' H' M' [] []) : In K S F0 H0 F' H' M' σ ds := by
  have no : ∀ b, H b = none → H0 b = none := fun b z => by
    cases w : H0 b with
    | none => rfl
    | some u =>
      obtain ⟨u', hu⟩ := I.there b u w
      rw [hu] at z
      cases z
  have own : ∀ b, b ∈ M.map (·.1) → H0 b = none ∨ S b := fun b hb => by
    obtain ⟨e, he, rfl⟩ := List.mem_map.mp hb
    exact I.own e he
  refine ⟨I.env.mono J.ff, I.ff.trans J.ff, J.fh, fun b o e n => ?_, fun b o e ns => ?_, fun b o e => ?_, J.mem, fun e he => ?_, J.nd⟩
  · cases q : F b with
    | some u => exact I.new b u q n
    | none => exact (J.new b o e q).elim (fun z => .inl (no b z)) (own b)
  · refine J.keep b o (I.keep b o e ns) fun hb => ?_
    rcases own b hb with z | z
    · rw [z] at e; cases e
    · exact ns z
  · obtain ⟨u, hu⟩ := I.there b o e
    exact J.there b u hu
  · rcases J.own e he with z | z
    · exact .inl (no _ z)
    · exact own _ z
theorem In.into {K : PySem.W.Frag} {S : Addr → Prop} {F0 H0 F H : Hp} {M : Mem} {σ : L2.St} {ds : Slots} (I : In K S F0 H0 F H M σ ds) : In K (fun a => a ∈ M.map (·.1)) F H F H M [] [] :=
  ⟨.nil, .refl _, I.fh, fun b o e n => (by rw [n] at e; cases e), fun b o e _ => e, fun b o e => ⟨o, e⟩, I.mem, fun e he => .inr (List.mem_map.mpr ⟨e, he, rfl⟩), I.nd⟩
end CS
namespace CS
open PySem L2
/-! ### such a def keeps its promise -/
def zipV : List Str → List DV → Slots
  | [], _ => []
  | x :: r, [] => (x, .no) :: zipV r []
  | x :: r, d :: s => (x, d) :: zipV r s
theorem zipV_names : ∀ (N : List Str) (as : List DV), (zipV N as).map (·.1) = N
  | [], _ => rfl
  | x :: r, [] => by rw [zipV, List.map_cons, zipV_names]
  | x :: r, d :: s => by rw [zipV, List.map_cons, zipV_names]
theorem zipV_nil : ∀ (N : List Str), zipV N [] = zipD N []
  | [] => rfl
  | x :: r => by rw [zipV, zipD, zipV_nil r]
theorem env_startV {K : PySem.W.Frag} {F : Hp} : ∀ (N : List Str) (vs : List V) (as : List DV), VL K F vs as → vs.length ≤ N.length → EnvOk K F (L2.start N vs) (zipV N as)
  | N, [], _, .nil, _ => by
    show EnvOk K F (([] : List V).map some ++ List.replicate (N.length - 0) none) (zipV N [])
    rw [List.map_nil, List.nil_append, Nat.sub_zero, zipV_nil]
    exact env_none N
  | [], v :: vs, _, .cons _ _, hl => by simp at hl
  | x :: N, v :: vs, _, .cons h r, hl => by
    have q := env_startV N vs _ r (by simpa using hl)
    have e : L2.start (x :: N) (v :: vs) = some v :: L2.start N vs := by
      unfold L2.start
      rw [List.length_cons, List.length_cons, Nat.add_sub_add_right]
      rfl
    rw [e]
    exact .cons (.of h) q
/-- M2: things of M, in any order -/
structure Part (M M2 : Mem) : Prop where
  sub : ∀ e ∈ M2, e ∈ M
  nd : (M.map (·.1)).Nodup → (M2.map (·.1)).Nodup
theorem Part.refl (M : Mem) : Part M M := ⟨fun _ h => h, fun h => h⟩
theorem Part.trans {M M2 M3 : Mem} (h : Part M M2) (g : Part M2 M3) : Part M M3 := ⟨fun e he => h.sub e (g.sub e he), fun n => g.nd (h.nd n)⟩
theorem Part.of_sub {M M2 : Mem} (h : M2.Sublist M) : Part M M2 := ⟨fun e he => h.subset he, fun n => (h.map _).nodup n⟩
theorem Part.of_perm {M M2 : Mem} (h : M.Perm M2) : Part M M2 := ⟨fun e he => h.mem_iff.mpr he, fun n => (h.map _).nodup_iff.mp n⟩
theorem In.part {K : PySem.W.Frag} {S : Addr → Prop} {F0 H0 F H : Hp} {M M2 : Mem} {σ : L2.St} {ds : Slots} (I : In K S F0 H0 F H M σ ds) (h : Part M M2) : In K S F0 H0 F H M2 σ ds :=
  ⟨I.env, I.ff, I.fh, I.new, I.keep, I.there, fun e he => I.mem e (h.sub e he), fun e he => I.own e (h.sub e he), h.nd I.nd⟩
/-- some of the things are still asked for -/
def Fr (M : Mem) (k : Mem → Prop) : Prop := ∃ M2, Part M M2 ∧ k M2
theorem Fr.all {M : Mem} {k : Mem → Prop} (h : k M) : Fr M k := ⟨M, .refl _, h⟩
theorem Fr.tl {M : Mem} {e : Addr × MO} {k : Mem → Prop} (h : Fr M k) : Fr (e :: M) k := by
  obtain ⟨M2, s, q⟩ := h
  exact ⟨M2, (Part.of_sub (List.sublist_cons_self e M)).trans s, q⟩
theorem Fr.perm {M M2 : Mem} {k : Mem → Prop} (h : M.Perm M2) (q : k M2) : Fr M k := ⟨M2, .of_perm h, q⟩
theorem Fr.part {M M2 : Mem} {k : Mem → Prop} (h : Part M M2) (q : Fr M2 k) : Fr M k := by
  obtain ⟨M3, s, q⟩ := q
  exact ⟨M3, h.trans s, q⟩
section
variable {P : Program} {w : World} {K : PySem.W.Frag} {mg : Str → Option Value} {base : Heap} {CX : CXT} {x qual : Str} {st : Stmt} {f : Addr} {fd : FuncData} {N ps : List Str} {d : Nat} {Pre : PreG}
abbrev PoG (rt : DV → Mem → Prop) (ex : Value → Mem → Prop) : Po := ⟨fun _ M' => Fr M' (rt (.d .non)), fun dv M' => Fr M' (rt dv), fun _ _ => False, fun _ _ => False, fun cls _ M' => Fr M' (ex cls)⟩
theorem defG_ok (T : Fun K x qual st f fd) (S : FnScope N ps (defScope st)) (hps : ps.length ≤ N.length) (len : ∀ M as rt ex, Pre M as rt ex → as.length = ps.length)
    (body : ∀ (cdv : Value) (A : Around) (outer : List Env) (s : Shared) (H : Hp) (E : XK) (M : Mem) (as : List DV) (rt : DV → Mem → Prop) (ex : Value → Mem → Prop), Rm d (A.deeper (PyProof.Rows.envOfC qual (defScope st) s.heap.objs.size f cdv)) → Pre M as rt ex →
      HSs (cxOf CX P w K mg base N qual (defScope st) f cdv A outer s H E) (fun c dd _ H => E c dd H) (defBody st) (zipV N as) M (PoG rt ex)) : FnR P w K mg base CX (d + 1) f fd ps (spG K Pre) := by
  refine fnr_of T S (fun vs H Q E ⟨F, M, as, rt, ex, I, r, hp, _⟩ => r.len.trans (len M as rt ex hp)) fun cdv A outer s H vs Q E hr h => ⟨_, pss_t _ _, ?_⟩
  obtain ⟨F, M, as, rt, ex, I, r, hp, q1, q2⟩ := h
  have hl : vs.length ≤ N.length := by rw [r.len, len M as rt ex hp]; exact hps
  refine body cdv A outer s H E M as rt ex hr hp (zipV_names N as).symm _ F H F H _ _ (I.slots (env_startV N vs as r hl)) ?_ ?_ ?_ ?_ ?_
  · intro F' H' M' σ' ds' s1 I1 n1 g1
    obtain ⟨M2, sub, g⟩ := g1
    exact q1 .non F' H' M2 _ ((I1.part sub).slots .nil) (VOk.dat .non) g
  · intro v F' H' M' σ' ds' dv s1 I1 o1 g1
    obtain ⟨M2, sub, g⟩ := g1
    exact q1 v F' H' M2 dv ((I1.part sub).slots .nil) o1 g
  · exact fun _ _ _ _ _ _ _ _ g => (show False from g).elim
  · exact fun _ _ _ _ _ _ _ _ g => (show False from g).elim
  · intro cls F' H' M' σ' ds' s1 I1 n1 g1
    obtain ⟨M2, sub, g⟩ := g1
    exact q2 cls F' H' M2 ((I1.part sub).slots .nil) g
theorem defG0 (T : Fun K x qual st f fd) (S : FnScope N ps (defScope st)) (hps : ps.length ≤ N.length) (len : ∀ M as rt ex, Pre M as rt ex → as.length = ps.length)
    (body : ∀ (X : Cx) (E : XK) (M : Mem) (as : List DV) (rt : DV → Mem → Prop) (ex : Value → Mem → Prop), Bd X P w K mg base N st d E → Pre M as rt ex → HSs X (fun c dd _ H => E c dd H) (defBody st) (zipV N as) M (PoG rt ex)) :
    FnR P w K mg base CX0 (d + 1) f fd ps (spG K Pre) := defG_ok T S hps len fun cdv A outer s H E M as rt ex hr h =>
  body _ E M as rt ex ⟨rfl, rfl, rfl, rfl, rfl, rfl, rfl, rfl, rfl, hr, passes_of rfl, rfl, rfl⟩ h
theorem defGX (T : Fun K x qual st f fd) (S : FnScope N ps (defScope st)) (hps : ps.length ≤ N.length) (len : ∀ M as rt ex, Pre M as rt ex → as.length = ps.length)
    (body : ∀ (X : Cx) (E : XK) (M : Mem) (as : List DV) (rt : DV → Mem → Prop) (ex : Value → Mem → Prop), Bd X P w K mg base N st d E → Takes X (fun cls d _ H => E cls d H) → Pre M as rt ex → HSs X (fun c dd _ H => E c dd H) (defBody st) (zipV N as) M (PoG rt ex)) :
    FnR P w K mg base (L2.CX P w) (d + 1) f fd ps (spG K Pre) := defG_ok T S hps len fun cdv A outer s H E M as rt ex hr h =>
  body _ E M as rt ex ⟨rfl, rfl, rfl, rfl, rfl, rfl, rfl, rfl, rfl, hr, passes_of rfl, rfl, rfl⟩ (takes_of rfl rfl rfl rfl) h
end
/-! ### calls of such defs -/
/-- a method, by its class and name -/
def MDef (P : Program) (w : World) (K : PySem.W.Frag) (mg : Str → Option Value) (base : Heap) (CX : CXT) (d : Nat) (C : Addr) (m : Str) (ps : List Str) (sp : Sp) : Prop :=
  ∃ f fd, FnR P w K mg base CX d f fd ps sp ∧ Meth K C m f ∧ Binds K fd ps []
/-- a class's making -/
def KDef (P : Program) (w : World) (K : PySem.W.Frag) (mg : Str → Option Value) (base : Heap) (CX : CXT) (d : Nat) (x : Str) (C : Addr) (ps : List Str) (sp : Sp) : Prop :=
  ∃ f fd, FnR P w K mg base CX d f fd ps sp ∧ Mk K C f ∧ Binds K fd ps [] ∧ mg x = some (.ref C)
section
variable {X : Cx} {W : WX} {CX : CXT} {d : Nat} {f C : Addr} {fd : FuncData} {ps : List Str} {sp : Sp} {E : St → XK} {x m : Str} {p pos apos : Pos} {e o : Expr} {es : List Expr} {ta : TE} {t : TA} {Pre : PreG}
variable {ds : Slots} {M : Mem} {R : DV → Mem → Prop} {Xp : Value → Mem → Prop} {V L G B : List Str}
def tMethQ (C : Addr) (m : Str) (sp : Sp) (E : St → XK) (ta : TE) (t : TA) : TE := fun σ H Q => ta σ H fun x H1 => ∃ a dx fs, x = .ref a ∧ H1 a = some (.ins C dx fs) ∧ fs.lookup m = none ∧ t σ H1 fun vs H2 => sp (x :: vs) H2 Q (E σ)
theorem pe_methQ {pl : Sem Bool} (he : PE X o ta) (c : Cls X.K C) (D : MDef X.prog X.w X.K X.mg X.base CX d C m ps sp) (hr : Rm d X.A) (hx : ∀ σ, PassesAt CX X σ (E σ)) (ha : PA X (e :: es) t)
    (hst : starEach (e :: es) X.env = (false, eval e X.env) :: starEach es X.env) (hpl : (backTo pos (starEach es X.env)).any (·.1) = false)
    (ht : eval (.Call (.Attribute o m apos) (e :: es) [] pos) X.env = (do
      let ov ← eval o X.env
      standAt apos.atName
      let (f, first) ← holding [ov] (getMethod ov m pl)
      callWith pos f first (backTo pos (starEach (e :: es) X.env)) (backToKw pos (keywordEach [] X.env)))) :
    PE X (.Call (.Attribute o m apos) (e :: es) [] pos) (tMethQ C m sp E ta t) := by
  obtain ⟨f, fd, F, hm, hb⟩ := D
  refine ⟨fun pins s σ H Q I h => ?_⟩
  refine PySem.W.methodCall_KW (pl := pl) (thn (he.run pins s σ H _ I h) fun u s1 ⟨x, H1, I1, rx, a, dx, fs, ex, ea, l, q⟩ => ?_) ht
  subst ex
  obtain rfl : u = Value.ref a := rx
  refine getmeth_ok I1 ea c hm l ?_
  refine PySem.W.callWith_K (first := [.ref a]) (h₀ := X.base) I.ok.mod.kin hm.kp (thn (ha.run pos pins s1 σ H1 _ I1 q) fun us s2 ⟨vs, H2, I2, r, q2⟩ => ⟨I2.kIn, ?_⟩) hst hpl
  exact go_fnr (us := .ref a :: us) (vs := .ref a :: vs) F hr hb (hx σ) I2 (.cons rfl r) q2
theorem pe_methQ0 {pl : Sem Bool} (he : PE X o ta) (c : Cls X.K C) (D : MDef X.prog X.w X.K X.mg X.base CX d C m ps sp) (hr : Rm d X.A) (hx : ∀ σ, PassesAt CX X σ (E σ))
    (ht : eval (.Call (.Attribute o m apos) [] [] pos) X.env = (do
      let ov ← eval o X.env
      standAt apos.atName
      let (f, first) ← holding [ov] (getMethod ov m pl)
      callWith pos f first (backTo pos (starEach [] X.env)) (backToKw pos (keywordEach [] X.env)))) :
    PE X (.Call (.Attribute o m apos) [] [] pos) (tMethQ C m sp E ta tNil) := by
  obtain ⟨f, fd, F, hm, hb⟩ := D
  refine ⟨fun pins s σ H Q I h => ?_⟩
  refine PySem.W.methodCall_KW (pl := pl) (thn (he.run pins s σ H _ I h) fun u s1 ⟨x, H1, I1, rx, a, dx, fs, ex, ea, l, q⟩ => ?_) ht
  subst ex
  obtain rfl : u = Value.ref a := rx
  refine getmeth_ok I1 ea c hm l ?_
  exact PySem.W.callWith_K0 (first := [.ref a]) I1.kIn hm.kp (go_fnr (us := [.ref a]) (vs := [.ref a]) F hr hb (hx σ) I1 (.cons rfl .nil) q)
theorem VOk.ref {K : PySem.W.Frag} {F : Hp} (p : Addr) : VOk K F (.ref p) (.m p) := rfl
/-- the worth of a call over things that may change -/
theorem spG_go {K : PySem.W.Frag} {S : Addr → Prop} {F0 H0 F H : Hp} {σ : L2.St} {vs : List L2.V} {dvs : List DV} {Q : VK} (I : In K S F0 H0 F H M σ ds) (o : VL K F vs dvs) (h : Pre M dvs R Xp)
    (q : ∀ v F' H' M' dv, Same F F' → In K S F0 H0 F' H' M' σ ds → VOk K F' v dv → R dv M' → Q v H') (x : ∀ cls F' H' M', Same F F' → In K S F0 H0 F' H' M' σ ds → Xp cls M' → W cls none σ H') : spG K Pre vs H Q (WE W σ) :=
  ⟨F, M, dvs, R, Xp, I.into, o, h, fun v F' H' M' dv J ov g => q v F' H' M' dv J.ff (I.back J) ov g, fun cls F' H' M' J g => x cls F' H' M' J.ff (I.back J) g⟩
theorem he_meth (D : MDef X.prog X.w X.K X.mg X.base CX d C m ps (spG X.K Pre)) (c : Cls X.K C) (hr : Rm d X.A) (hx : Lets CX X W)
    (h : HE X W o ds M (fun x M1 => ObjP M1 x fun p i mo => ∃ dx fs, mo = .ins C dx fs ∧ fs.lookup m = none ∧ HA X W (e :: es) ds M1 (fun dvs M2 => Pre M2 (.m p :: dvs) R Xp) Xp) Xp)
    (hst : starEach (e :: es) X.env = (false, eval e X.env) :: starEach es X.env) (hpl : (backTo pos (starEach es X.env)).any (·.1) = false)
    (ht : ∃ pl : Sem Bool, eval (.Call (.Attribute o m apos) (e :: es) [] pos) X.env = (do
      let ov ← eval o X.env
      standAt apos.atName
      let (f, first) ← holding [ov] (getMethod ov m pl)
      callWith pos f first (backTo pos (starEach (e :: es) X.env)) (backToKw pos (keywordEach [] X.env)))) : HE X W (.Call (.Attribute o m apos) (e :: es) [] pos) ds M R Xp := by
  obtain ⟨pl, ht⟩ := ht
  refine he_of (pe_methQ (pl := pl) (E := WE W) (pe_t X o) c D hr hx (pa_t X _) hst hpl ht) fun n S F0 H0 F H σ I Q q x => h n S F0 H0 F H σ I _ (fun v F1 H1 M1 dv s1 I1 o1 g1 => ?_) x
  obtain ⟨p, i, mo, rfl, hi, dx, fs, rfl, hl, g⟩ := g1
  have o1 : v = .ref p := o1
  subst o1
  obtain ⟨_, u, hu, ou⟩ := I1.mem _ (List.mem_of_getElem? hi)
  cases ou with
  | ins vf =>
    refine ⟨p, dx, _, rfl, hu, vf.lookN hl, ?_⟩
    exact g n S F0 H0 F1 H1 σ I1 _ (fun vs F2 H2 M2 dvs s2 I2 o2 g2 => spG_go I2 (.cons (VOk.ref p) o2) g2 (fun v F' H' M' dv s3 J ov gg => q v F' H' M' dv ((s1.trans s2).trans s3) J ov gg) fun cls F' H' M' s3 J gg => x cls F' H' M' ((s1.trans s2).trans s3) J gg)
      fun cls F2 H2 M2 s2 I2 g2 => x cls F2 H2 M2 (s1.trans s2) I2 g2
theorem he_meth0 (D : MDef X.prog X.w X.K X.mg X.base CX d C m ps (spG X.K Pre)) (c : Cls X.K C) (hr : Rm d X.A) (hx : Lets CX X W)
    (h : HE X W o ds M (fun x M1 => ObjP M1 x fun p i mo => ∃ dx fs, mo = .ins C dx fs ∧ fs.lookup m = none ∧ Pre M1 [.m p] R Xp) Xp)
    (ht : ∃ pl : Sem Bool, eval (.Call (.Attribute o m apos) [] [] pos) X.env = (do
      let ov ← eval o X.env
      standAt apos.atName
      let (f, first) ← holding [ov] (getMethod ov m pl)
      callWith pos f first (backTo pos (starEach [] X.env)) (backToKw pos (keywordEach [] X.env)))) : HE X W (.Call (.Attribute o m apos) [] [] pos) ds M R Xp := by
  obtain ⟨pl, ht⟩ := ht
  refine he_of (pe_methQ0 (pl := pl) (E := WE W) (pe_t X o) c D hr hx ht) fun n S F0 H0 F H σ I Q q x => h n S F0 H0 F H σ I _ (fun v F1 H1 M1 dv s1 I1 o1 g1 => ?_) x
  obtain ⟨p, i, mo, rfl, hi, dx, fs, rfl, hl, g⟩ := g1
  have o1 : v = .ref p := o1
  subst o1
  obtain ⟨_, u, hu, ou⟩ := I1.mem _ (List.mem_of_getElem? hi)
  cases ou with
  | ins vf =>
    refine ⟨p, dx, _, rfl, hu, vf.lookN hl, ?_⟩
    exact spG_go I1 (.cons (VOk.ref p) .nil) g (fun v F' H' M' dv s3 J ov gg => q v F' H' M' dv (s1.trans s3) J ov gg) fun cls F' H' M' s3 J gg => x cls F' H' M' (s1.trans s3) J gg
/-- f(..) of such a def -/
theorem he_callG (D : Def X.prog X.w X.K X.mg X.base CX d x ps (spG X.K Pre)) (k : Kx X V L G B) (mm : Mm G x) (hr : Rm d X.A) (hx : Lets CX X W) (h : HA X W (e :: es) ds M (fun dvs M1 => Pre M1 dvs R Xp) Xp)
    (he : starEach (e :: es) X.env = (false, eval e X.env) :: starEach es X.env) (hpl : (backTo pos (starEach es X.env)).any (·.1) = false) : HE X W (.Call (.Name x p) (e :: es) [] pos) ds M R Xp :=
  he_of (pe_callR (E := WE W) D hr (k.gl x mm.mem).1 hx (pa_t X _) (k.gl x mm.mem).2 he hpl) fun n S F0 H0 F H σ I Q q x => h n S F0 H0 F H σ I _ (fun vs F1 H1 M1 dvs s1 I1 o1 g1 =>
    spG_go I1 o1 g1 (fun v F' H' M' dv s3 J ov gg => q v F' H' M' dv (s1.trans s3) J ov gg) fun cls F' H' M' s3 J gg => x cls F' H' M' (s1.trans s3) J gg) x
theorem Rm.make {A : Around} (r : Rm (d + 1) A) (C : Addr) (us : List Value) (kw : List (Str × Value)) : Rm d (A.under (.builtin "type.__call__" ⟨.ref C :: us, kw⟩)) :=
  ⟨r.hd, by have := r.dp; rw [make_depth]; omega, by have := r.un; rw [make_units]; omega⟩
theorem run_makeQ {pins : List (Addr × Obj)} {σ : L2.St} {H : Hp} {s : Shared} {Q : VK} {us : List Value} {vs : List L2.V} (Mm : Mk X.K C f) (F : FnR X.prog X.w X.K X.mg X.base CX d f fd ps sp) (hr : Rm (d + 1) X.A) (hb : Binds X.K fd ps [])
    (hx : PassesAt CX X σ (E σ)) (hx2 : ∀ s' e s2 H', Inv X pins σ H' s' → CX X.stack H' s' (E σ) e s2 → X.xe e s2) (I : Inv X pins σ H s) (r : Vals vs us)
    (h : ∀ x dx, H x = none → H dx = none → dx ≠ x → sp (.ref x :: vs) (upd (upd H dx (.own x)) x (.ins C dx [])) (fun v H2 => v = .non ∧ Q (.ref x) H2) (E σ)) :
    wpAny (model X.prog X.w) X.A (call (.ref C) us) (EP X pins σ Q) X.xe s := by
  have hq := h (s.heap.objs.size + 1) s.heap.objs.size (I.hok.fresh (Nat.le_succ _)) (I.hok.fresh (Nat.le_refl _)) (Nat.ne_of_lt (Nat.lt_succ_self _))
  have I2 := Inv.made (C := C) I
  have r2 : Vals (.ref (s.heap.objs.size + 1) :: vs) (Value.ref (s.heap.objs.size + 1) :: us) := .cons rfl r
  have hl : (Value.ref (s.heap.objs.size + 1) :: us).length = ps.length := by
    have e := r2.length
    rw [F.len _ _ _ _ hq] at e
    exact e.symm
  have hb2 := hb _ (Value.ref (s.heap.objs.size + 1) :: us) I2.kIn (by rw [List.append_nil]; exact hl)
  rw [List.append_nil] at hb2
  refine wpAny_call (make_map (f := f) I.kIn Mm.makes Mm.init (beq_iff_eq.mp Mm.fn) (codeAny_mono (F.go _ X.stack _ _ ⟨Value.ref (s.heap.objs.size + 1) :: us, []⟩ (Value.ref (s.heap.objs.size + 1) :: us) _ _ (E σ) (hr.make C us [])
    (I2.env0.make C us []) hb2 r2 hq) fun r s' hq' => ?_))
  cases r with
  | error e => exact hx2 _ e s' _ I2 hq'
  | ok fl =>
    cases fl with
    | ret u =>
      obtain ⟨v, H', I3, rv, ev, q3⟩ := I2.after hq'
      subst ev
      exact ⟨rv, ⟨.ref (s.heap.objs.size + 1), H', I3, rfl, q3⟩⟩
    | next => exact False.elim hq'
    | brk => exact False.elim hq'
    | cont => exact False.elim hq'
def tMakeQ (C : Addr) (sp : Sp) (E : St → XK) (t : TA) : TE := fun σ H Q => t σ H fun vs H1 => ∀ x dx, H1 x = none → H1 dx = none → dx ≠ x →
  sp (.ref x :: vs) (upd (upd H1 dx (.own x)) x (.ins C dx [])) (fun v H2 => v = .non ∧ Q (.ref x) H2) (E σ)
theorem pe_makeQ (D : KDef X.prog X.w X.K X.mg X.base CX d x C ps sp) (hr : Rm (d + 1) X.A) (hg : Gl X x) (hx : ∀ σ, PassesAt CX X σ (E σ)) (ha : PA X (e :: es) t) (hdb : (x == ("__debug__" : Str)) = false)
    (he : starEach (e :: es) X.env = (false, eval e X.env) :: starEach es X.env) (hpl : (backTo pos (starEach es X.env)).any (·.1) = false) : PE X (.Call (.Name x p) (e :: es) [] pos) (tMakeQ C sp E t) := by
  obtain ⟨f, fd, F, Mm, hb, hm⟩ := D
  refine ⟨fun pins s σ H Q I h => ?_⟩
  refine wpAny_Call_Name_kw (ld_glob I hg hm ?_ hdb)
  refine PySem.W.callWith_K (h₀ := X.base) I.ok.mod.kin Mm.kp (thn (ha.run pos pins s σ H _ I h) fun us s1 ⟨vs, H1, I1, r, q⟩ => ⟨I1.kIn, ?_⟩) he hpl
  exact run_makeQ Mm F hr hb (hx σ) (fun s' e s2 H' J c => hx σ pins H' s' e s2 J c) I1 r q
/-- C(..) of a class with an __init__ of the text -/
theorem he_make (D : KDef X.prog X.w X.K X.mg X.base CX d x C ps (spG X.K Pre)) (k : Kx X V L G B) (mm : Mm G x) (hr : Rm (d + 1) X.A) (hx : Lets CX X W)
    (h : HA X W (e :: es) ds M (fun dvs M1 => ∀ q dx, Pre ((q, .ins C dx []) :: M1) (.m q :: dvs) (fun dv M2 => dv = .d .non ∧ R (.m q) M2) Xp) Xp)
    (he : starEach (e :: es) X.env = (false, eval e X.env) :: starEach es X.env) (hpl : (backTo pos (starEach es X.env)).any (·.1) = false) : HE X W (.Call (.Name x p) (e :: es) [] pos) ds M R Xp :=
  he_of (pe_makeQ (E := WE W) D hr (k.gl x mm.mem).1 hx (pa_t X _) (k.gl x mm.mem).2 he hpl) fun n S F0 H0 F H σ I Q q x => h n S F0 H0 F H σ I _ (fun vs F1 H1 M1 dvs s1 I1 o1 g1 => by
    intro a dx ha hdx ne
    have y := Ext.lay (.own a) I1.fh hdx
    have I2 := I1.ext y
    have I3 : In X.K S F0 H0 (upd F1 dx (.own a)) (upd (upd H1 dx (.own a)) a (.ins C dx [])) ((a, MO.ins C dx []) :: M1) σ ds := I2.newC (by rw [upd_ne ne.symm]; exact ha) (.ins .nil)
    refine spG_go I3 (.cons (VOk.ref a) (o1.mono y.ff)) (g1 a dx) (fun v F' H' M' dv s3 J ov gg => ?_) fun cls F' H' M' s3 J gg => x cls F' H' M' ((s1.trans y.ff).trans s3) J gg
    obtain ⟨rfl, gg⟩ := gg
    have ov : Rp X.K F' v .non := ov
    refine ⟨by cases ov; rfl, q _ F' H' M' (.m a) ((s1.trans y.ff).trans s3) J rfl gg⟩) x
end
end CS

/-! CsDict: dicts, stores by subscript, append and pop, membership, freezing. -/
namespace CS
open PySem L2
abbrev Ky := L2.Key
def valD {β : Type} : List (Ky × β) → Ky → Option β
  | [], _ => none
  | (k', d) :: r, k => if k' = k then some d else valD r k
def putKD {β : Type} (kvs : List (Ky × β)) (k : Ky) (v : β) : List (Ky × β) :=
  if (kvs.any fun kv => decide (kv.1 = k)) = true then kvs.map (fun kv => if kv.1 = k then (kv.1, v) else kv) else kvs ++ [(k, v)]
section
variable {K : PySem.W.Frag} {F : Hp}
theorem VK'.len : ∀ {vs : List (Ky × V)} {ds : List (Ky × DV)}, VK' K F vs ds → vs.length = ds.length
  | _, _, .nil => rfl
  | _, _, .cons _ r => congrArg (· + 1) (VK'.len r)
theorem VK'.get {k : Ky} : ∀ {vs : List (Ky × V)} {ds : List (Ky × DV)}, VK' K F vs ds → (∀ dv, valD ds k = some dv → ∃ v, valV vs k = some v ∧ VOk K F v dv) ∧ (valD ds k = none → valV vs k = none)
  | _, _, .nil => ⟨fun _ e => (nomatch e), fun _ => rfl⟩
  | _, _, @VK'.cons _ _ k' v d vs ds h r => by
    obtain ⟨a, b⟩ := VK'.get (k := k) r
    by_cases e : k' = k
    · have e1 : valD ((k', d) :: ds) k = some d := by show (if k' = k then _ else _) = _; rw [if_pos e]
      rw [e1, valV_pos (p := (k', v)) e]
      exact ⟨fun dv q => by cases q; exact ⟨v, rfl, h⟩, fun q => by cases q⟩
    · have e1 : valD ((k', d) :: ds) k = valD ds k := by show (if k' = k then _ else _) = _; rw [if_neg e]
      rw [e1, valV_neg (p := (k', v)) e]
      exact ⟨a, b⟩
theorem VK'.any {k : Ky} : ∀ {vs : List (Ky × V)} {ds : List (Ky × DV)}, VK' K F vs ds → (vs.any fun kv => decide (kv.1 = k)) = (ds.any fun kv => decide (kv.1 = k))
  | _, _, .nil => rfl
  | _, _, .cons _ r => by rw [List.any_cons, List.any_cons, VK'.any r]
theorem VK'.append : ∀ {vs ws : List (Ky × V)} {ds es : List (Ky × DV)}, VK' K F vs ds → VK' K F ws es → VK' K F (vs ++ ws) (ds ++ es)
  | _, _, _, _, .nil, s => s
  | _, _, _, _, .cons h r, s => .cons h (VK'.append r s)
theorem VK'.rep {k : Ky} {y : V} {dy : DV} (hy : VOk K F y dy) : ∀ {vs : List (Ky × V)} {ds : List (Ky × DV)}, VK' K F vs ds → VK' K F (vs.map fun kv => if kv.1 = k then (kv.1, y) else kv) (ds.map fun kv => if kv.1 = k then (kv.1, dy) else kv)
  | _, _, .nil => .nil
  | _, _, @VK'.cons _ _ k' v d vs ds h r => by
    rw [List.map_cons, List.map_cons]
    by_cases e : k' = k
    · rw [if_pos (show (k', v).1 = k from e), if_pos (show (k', d).1 = k from e)]
      exact .cons hy (VK'.rep hy r)
    · rw [if_neg (show ¬ (k', v).1 = k from e), if_neg (show ¬ (k', d).1 = k from e)]
      exact .cons h (VK'.rep hy r)
theorem VK'.put {k : Ky} {y : V} {dy : DV} (hy : VOk K F y dy) {vs : List (Ky × V)} {ds : List (Ky × DV)} (h : VK' K F vs ds) : VK' K F (putK vs k y) (putKD ds k dy) := by
  unfold putK putKD
  rw [h.any]
  split
  · exact h.rep hy
  · exact h.append (.cons hy .nil)
theorem VK'.of_data : ∀ {vs : List (Ky × V)} {ds : List (Ky × Dat)}, RpK K F vs ds → VK' K F vs (ds.map fun kv => (kv.1, .d kv.2))
  | _, _, .nil => .nil
  | _, _, .cons h r => .cons h (VK'.of_data r)
theorem VK'.to_data : ∀ {ds : List (Ky × Dat)} {vs : List (Ky × V)}, VK' K F vs (ds.map fun kv => (kv.1, .d kv.2)) → RpK K F vs ds
  | [], _, h => by
    cases h
    exact .nil
  | (k, d) :: ds, _, h => by
    cases h with
    | cons a r => exact .cons a (VK'.to_data r)
end
/-- a key -/
inductive KD : DV → Ky → Prop
  | int (i : Int) : KD (.d (.int i)) (.inl i)
  | str (s : Str) : KD (.d (.str s)) (.inr s)
theorem KD.v {K : PySem.W.Frag} {F : Hp} {v : V} {dv : DV} {k : Ky} (h : KD dv k) (o : VOk K F v dv) : v = kV k := by
  cases h with
  | int i => cases o; rfl
  | str s => cases o; rfl
/-- what a dict holds -/
inductive DOf (M : Mem) : DV → List (Ky × DV) → Prop
  | dat (kvs : List (Ky × Dat)) : DOf M (.d (.dct kvs)) (kvs.map fun kv => (kv.1, .d kv.2))
  | mu {p : Addr} {i : Nat} {kvs : List (Ky × DV)} (h : M[i]? = some (p, .dct kvs)) : DOf M (.m p) kvs
section
variable {K : PySem.W.Frag} {S : Addr → Prop} {F0 H0 F H : Hp} {σ : L2.St} {ds : Slots} {M : Mem}
theorem DOf.get {v : V} {a : DV} {kvs : List (Ky × DV)} (I : In K S F0 H0 F H M σ ds) (o : VOk K F v a) (h : DOf M a kvs) : ∃ p vs, v = .ref p ∧ Rd H p (.dK vs) ∧ VK' K F vs kvs := by
  cases h with
  | dat kvs =>
    have o : Rp K F v (.dct kvs) := o
    cases o with
    | dct hF r => exact ⟨_, _, rfl, .inr ⟨_, I.fh _ _ hF⟩, .of_data r⟩
  | mu h =>
    have o : v = .ref _ := o
    subst o
    obtain ⟨_, u, hu, ou⟩ := I.mem _ (List.mem_of_getElem? h)
    cases ou with
    | dct r => exact ⟨_, _, rfl, .inl hu, r⟩
end
/-! ### d[k] -/
def rDG : R2 := fun x y H Q => ∃ a v, x = .ref a ∧ DGet H a y (some v) ∧ Q v H
theorem dtail {prog : Program} {w : World} {A : Around} {E : Value → Shared → Prop} {s : Shared} {value slice : Expr} {o i : Value} {T id : String} {Q : Value → Shared → Prop}
    (hl : typeLookup (.type T) "__getitem__" = pure (some (.builtin id))) (hs : subscripted slice false o i = operate [o, i] (getItem o i)) (hT : s.TypeIs o T)
    (h : wpAny (model prog w) A (getItem o i) Q E s) : wpAny (model prog w) A (PyProof.Rows.subscriptTail value slice o i) Q E s := by
  unfold PyProof.Rows.subscriptTail
  refine wpAny_bind ?_
  rw [getitemInPython_of_ne hT.not_modules]
  refine wpAny_bind (wpAny_specialOf hT hl ?_)
  have fin : wpAny (model prog w) A (subscripted slice false o i) (fun r s₃ => wpAny (model prog w) A (letTemporaryGo value o r >>= fun _ => pure r) Q E s₃) E s := by
    rw [hs]
    exact wpAny_operating (wpAny_mono h (fun r s₃ h₃ => wpAny_bind (wpAny_letTemporaryGo (wpAny_pure h₃))) fun _ _ x => x)
  first
    | exact wpAny_pure (wpAny_bind fin)
    | exact wpAny_bind (wpAny_pure (wpAny_bind fin))
    | exact wpAny_bind fin
section
variable {X : Cx}
theorem ix_dget (hu : X.A.units + 1 < cLine) : IxR X rDG := by
  intro value slice pins s σ H x y v u Q I rx ry h hs
  obtain ⟨a, z, rfl, g, q⟩ := h
  obtain rfl : v = Value.ref a := rx
  exact dtail PySem.F.slot_dict_getitem.lookup hs (dict_typeIs I g) (d_getItem hu I g ry fun w' s3 I3 rw' => ⟨z, H, I3, rw', q⟩)
def rDIn (neg : Bool) : R2 := fun x y H Q => ∃ a o, y = .ref a ∧ DGet H a x o ∧ Q (.bl (if neg then !o.isSome else o.isSome)) H
theorem op_din (hu : X.A.units + 1 < cLine) : OpR X (compareOp .In) (rDIn false) := by
  intro pins s σ H x y v u Q I rx ry h
  obtain ⟨a, o, rfl, g, q⟩ := h
  obtain rfl : u = Value.ref a := ry
  exact d_in hu I g rx fun s3 I3 => ⟨.bl o.isSome, H, I3, rfl, q⟩
theorem op_dnin (hu : X.A.units + 1 < cLine) : OpR X (compareOp .NotIn) (rDIn true) := by
  intro pins s σ H x y v u Q I rx ry h
  obtain ⟨a, o, rfl, g, q⟩ := h
  obtain rfl : u = Value.ref a := ry
  exact d_notIn hu I g rx fun s3 I3 => ⟨.bl (!o.isSome), H, I3, rfl, q⟩
end
section
variable {K : PySem.W.Frag}
def dDG : DV → DV → Mem → (DV → Mem → Prop) → Prop := fun a b M R => ∃ kvs k dv, DOf M a kvs ∧ KD b k ∧ valD kvs k = some dv ∧ R dv M
theorem od_dg : OD K rDG dDG := by
  rintro S F0 H0 F H M σ ds a b v w R Q I oa ob ⟨kvs, k, dv, hd, hk, hv, h⟩ q
  obtain ⟨p, vs, rfl, hp, r⟩ := hd.get I oa
  obtain rfl := hk.v ob
  obtain ⟨z, hz, oz⟩ := (r.get (k := k)).1 dv hv
  exact ⟨p, z, rfl, by rw [← hz]; exact .inl ⟨_, k, hp, rfl, rfl⟩, q z F H M dv (.refl _) I oz h⟩
/-- k in d -/
def dDIn (neg : Bool) : DV → DV → Mem → (DV → Mem → Prop) → Prop := fun a b M R => ∃ kvs k, DOf M b kvs ∧ KD a k ∧ R (.d (.bl (if neg then !(valD kvs k).isSome else (valD kvs k).isSome))) M
theorem od_din {neg : Bool} : OD K (rDIn neg) (dDIn neg) := by
  rintro S F0 H0 F H M σ ds a b v w R Q I oa ob ⟨kvs, k, hd, hk, h⟩ q
  obtain ⟨p, vs, rfl, hp, r⟩ := hd.get I ob
  obtain rfl := hk.v oa
  refine ⟨p, valV vs k, rfl, .inl ⟨_, k, hp, rfl, rfl⟩, ?_⟩
  have e : (valV vs k).isSome = (valD kvs k).isSome := by
    cases q : valD kvs k with
    | none =>
      rw [(r.get (k := k)).2 q]
      rfl
    | some dv =>
      obtain ⟨z, hz, _⟩ := (r.get (k := k)).1 dv q
      rw [hz] <;> rfl
  rw [e]
  exact q _ F H M _ (.refl _) I (VOk.dat (.bl _)) h
/-- a text among texts -/
def dSIn (neg : Bool) : DV → DV → Mem → (DV → Mem → Prop) → Prop := fun a b M R => ∃ (s : Str) (ss : List Str), a = .d (.str s) ∧ (LOf M b (ss.map .str) ∨ b = .d (.tup (ss.map .str))) ∧ R (.d (.bl (if neg then !decide (s ∈ ss) else decide (s ∈ ss)))) M
theorem inV_str (s : Str) : ∀ ss : List Str, inV (.str s) (ss.map V.str) = decide (s ∈ ss)
  | [] => by simp [inV]
  | t :: ss => by
    have ih := inV_str s ss
    unfold inV at ih ⊢
    rw [List.map_cons, List.any_cons, ih]
    show ((t == s) || _) = _
    by_cases h : t = s
    · subst h; simp
    · have h2 : ¬ s = t := fun e => h e.symm
      simp [h, h2]
theorem flat_str : ∀ ss : List Str, (ss.map V.str).all flatV = true
  | [] => rfl
  | t :: ss => by rw [List.map_cons, List.all_cons, flat_str ss]; rfl
theorem od_sin {neg : Bool} : OD K (rIn K neg) (dSIn neg) := by
  rintro S F0 H0 F H M σ ds a b v w R Q I oa ob ⟨s, ss, rfl, hl, h⟩ q
  cases oa
  have fin : ∀ p, (SqL K H p (ss.map V.str) ∨ SqT K H p (ss.map V.str)) → rIn K neg (.str s) (.ref p) H Q := fun p hp =>
    ⟨p, _, rfl, hp, rfl, flat_str ss, by rw [inV_str]; exact q _ F H M _ (.refl _) I (VOk.dat (.bl _)) h⟩
  rcases hl with hl | rfl
  · obtain ⟨p, vs, rfl, hp, r⟩ := hl.get I ob
    obtain rfl := r.str_inv
    exact fin p (.inl (.of hp))
  · have ob : Rp K F w (.tup (ss.map .str)) := ob
    cases ob with
    | tup hF r =>
      obtain rfl := r.str_inv
      exact fin _ (.inr (.of (I.fh _ _ hF)))
end
def DgP (M : Mem) (x y : DV) (k : DV → Prop) : Prop := ∃ kvs key dv, DOf M x kvs ∧ KD y key ∧ valD kvs key = some dv ∧ k dv
def IxA (M : Mem) (x y : DV) (k : DV → Prop) : Prop := IxP M x y k ∨ DgP M x y k
def InA (neg : Bool) (M : Mem) (x y : DV) (k : Bool → Prop) : Prop := dDIn neg x y M (fun z _ => ∃ b, z = .d (.bl b) ∧ k b) ∨ dSIn neg x y M (fun z _ => ∃ b, z = .d (.bl b) ∧ k b)
/-- what stands behind «in» marks nothing -/
class BM (e : Expr) : Prop where
  h : ∀ op, behindInMarks op e = false
instance {x : Str} {p : Pos} : BM (.Name x p) := ⟨fun op => by cases op <;> rfl⟩
instance {a : Expr} {x : Str} {p : Pos} : BM (.Attribute a x p) := ⟨fun op => by cases op <;> rfl⟩
section
variable {X : Cx} {W : WX} {e a b c o : Expr} {es : List Expr} {ds : Slots} {M : Mem} {R : DV → Mem → Prop} {Xp : Value → Mem → Prop} {pos p p2 p3 apos : Pos} {V L G B : List Str} {f : Str}
variable {pn : Slots → Mem → Prop} {pr : DV → Mem → Prop} {pb pc : Slots → Mem → Prop} {px : Value → Slots → Mem → Prop}
theorem he_ixA {d : Nat} (hr : Rm d X.A) (h : HE X W a ds M (fun x M1 => HE X W b ds M1 (fun y M2 => IxA M2 x y fun d => R d M2) Xp) Xp) (hs : PlainIx b) : HE X W (.Subscript a b pos) ds M R Xp :=
  he_of (pe_ix (ix_seq.or (ix_dget (by have := hr.units; omega))) (pe_t X a) (pe_t X b) hs) fun n => we_op (od_ix.or od_dg) (we_imp (h n) fun _ _ g => we_imp (g n) fun _ _ z => by
    rcases z with ⟨i, d, e1, h1, k⟩ | ⟨kvs, key, dv, h1, h2, h3, k⟩
    · exact .inl ⟨i, d, e1, h1, k⟩
    · exact .inr ⟨kvs, key, dv, h1, h2, h3, k⟩)
instance (priority := high) [p : PX' b] [r : Rc X] : Step (HE X W (.Subscript a b pos) ds M R Xp) (HE X W a ds M (fun x M1 => HE X W b ds M1 (fun y M2 => IxA M2 x y fun d => R d M2) Xp) Xp) := ⟨fun h => r.h.elim fun _ hr => he_ixA hr h p.h⟩
instance {xs : List Dat} {y : DV} {k : DV → Prop} : Step (IxA M (.d (.tup xs)) y k) (IxP M (.d (.tup xs)) y k) := ⟨.inl⟩
instance {xs : List Dat} {y : DV} {k : DV → Prop} : Step (IxA M (.d (.lst xs)) y k) (IxP M (.d (.lst xs)) y k) := ⟨.inl⟩
instance {xs : List Int} {y : DV} {k : DV → Prop} : Step (IxA M (.d (.scr xs)) y k) (IxP M (.d (.scr xs)) y k) := ⟨.inl⟩
instance {s : Str} {y : DV} {k : DV → Prop} : Step (IxA M (.d (.str s)) y k) (IxP M (.d (.str s)) y k) := ⟨.inl⟩
def DvP (kvs : List (Ky × Dat)) (key : Ky) (k : DV → Prop) : Prop := ∃ d, valD kvs key = some d ∧ k (.d d)
theorem valD_map {kvs : List (Ky × Dat)} {key : Ky} {d : Dat} (h : valD kvs key = some d) : valD (kvs.map fun kv => (kv.1, DV.d kv.2)) key = some (.d d) := by
  induction kvs with
  | nil => cases h
  | cons q r ih =>
    obtain ⟨k', e⟩ := q
    rw [List.map_cons]
    unfold valD at h ⊢
    split at h
    · rename_i hk
      rw [if_pos hk]
      cases h
      rfl
    · rename_i hk
      rw [if_neg hk]
      exact ih h
theorem valD_mapS {kvs : List (Ky × Dat)} {key : Ky} : (valD (kvs.map fun kv => (kv.1, DV.d kv.2)) key).isSome = (valD kvs key).isSome := by
  induction kvs with
  | nil => rfl
  | cons q r ih =>
    obtain ⟨k', e⟩ := q
    rw [List.map_cons]
    unfold valD
    split
    · rfl
    · exact ih
theorem dvP {kvs : List (Ky × Dat)} {y : DV} {key : Ky} {k : DV → Prop} (hk : KD y key) (h : DvP kvs key k) : IxA M (.d (.dct kvs)) y k := by
  obtain ⟨d, h1, h2⟩ := h
  exact .inr ⟨_, key, .d d, .dat kvs, hk, valD_map h1, h2⟩
instance {kvs : List (Ky × Dat)} {s : Str} {k : DV → Prop} : Step (IxA M (.d (.dct kvs)) (.d (.str s)) k) (DvP kvs (.inr s) k) := ⟨dvP (.str s)⟩
instance {kvs : List (Ky × Dat)} {i : Int} {k : DV → Prop} : Step (IxA M (.d (.dct kvs)) (.d (.int i)) k) (DvP kvs (.inl i) k) := ⟨dvP (.int i)⟩
/-! ### in -/
theorem inA_ht {neg : Bool} {R : Bool → Mem → Prop} {x y : DV} {M2 : Mem} (z : InA neg M2 x y fun q => R q M2) : dDIn neg x y M2 (fun z M3 => ∃ k, z = .d (.bl k) ∧ R k M3) ∨ dSIn neg x y M2 (fun z M3 => ∃ k, z = .d (.bl k) ∧ R k M3) := by
  rcases z with ⟨kvs, key, h1, h2, q⟩ | ⟨s, ss, h1, h2, q⟩
  · exact .inl ⟨kvs, key, h1, h2, q⟩
  · exact .inr ⟨s, ss, h1, h2, q⟩
theorem ht_in {d : Nat} {R : Bool → Mem → Prop} (hr : Rm d X.A) (h : HE X W a ds M (fun x M1 => HE X W b ds M1 (fun y M2 => InA false M2 x y fun z => R z M2) Xp) Xp) (hm : behindInMarks .In b = false) : HT X W (.Compare a [.In] [b] pos) ds M R Xp :=
  ht_cmp ((op_din (by have := hr.units; omega)).or op_in_seq) (od_din.or od_sin) (he_imp h fun _ _ q => he_imp q fun _ _ z => inA_ht z) hm
theorem ht_notin {d : Nat} {R : Bool → Mem → Prop} (hr : Rm d X.A) (h : HE X W a ds M (fun x M1 => HE X W b ds M1 (fun y M2 => InA true M2 x y fun z => R z M2) Xp) Xp) (hm : behindInMarks .NotIn b = false) : HT X W (.Compare a [.NotIn] [b] pos) ds M R Xp :=
  ht_cmp ((op_dnin (by have := hr.units; omega)).or op_notIn_seq) (od_din.or od_sin) (he_imp h fun _ _ q => he_imp q fun _ _ z => inA_ht z) hm
instance {R : Bool → Mem → Prop} [r : Rc X] [m : BM b] : Step (HT X W (.Compare a [.In] [b] pos) ds M R Xp) (HE X W a ds M (fun x M1 => HE X W b ds M1 (fun y M2 => InA false M2 x y fun z => R z M2) Xp) Xp) := ⟨fun h => r.h.elim fun _ hr => ht_in hr h (m.h _)⟩
instance {R : Bool → Mem → Prop} [r : Rc X] [m : BM b] : Step (HT X W (.Compare a [.NotIn] [b] pos) ds M R Xp) (HE X W a ds M (fun x M1 => HE X W b ds M1 (fun y M2 => InA true M2 x y fun z => R z M2) Xp) Xp) := ⟨fun h => r.h.elim fun _ hr => ht_notin hr h (m.h _)⟩
instance {kvs : List (Ky × Dat)} {s : Str} {k : Bool → Prop} : Step (InA false M (.d (.str s)) (.d (.dct kvs)) k) (k (valD kvs (.inr s)).isSome) :=
  ⟨fun h => .inl ⟨_, .inr s, .dat kvs, .str s, _, rfl, by rw [if_neg (by decide), valD_mapS]; exact h⟩⟩
instance {kvs : List (Ky × Dat)} {s : Str} {k : Bool → Prop} : Step (InA true M (.d (.str s)) (.d (.dct kvs)) k) (k (!(valD kvs (.inr s)).isSome)) :=
  ⟨fun h => .inl ⟨_, .inr s, .dat kvs, .str s, _, rfl, by rw [if_pos rfl, valD_mapS]; exact h⟩⟩
instance {ss : List Str} {s : Str} {k : Bool → Prop} : Step (InA false M (.d (.str s)) (.d (.lst (ss.map .str))) k) (k (decide (s ∈ ss))) :=
  ⟨fun h => .inr ⟨s, ss, rfl, .inl .dat, _, rfl, by rw [if_neg (by decide)]; exact h⟩⟩
instance {ss : List Str} {s : Str} {k : Bool → Prop} : Step (InA true M (.d (.str s)) (.d (.lst (ss.map .str))) k) (k (!decide (s ∈ ss))) :=
  ⟨fun h => .inr ⟨s, ss, rfl, .inl .dat, _, rfl, by rw [if_pos rfl]; exact h⟩⟩
instance {p : Addr} {i : Nat} {kvs : List (Ky × DV)} {s : Str} {k : Bool → Prop} [at_ : AtM M p i (.dct kvs)] : Step (InA false M (.d (.str s)) (.m p) k) (k (valD kvs (.inr s)).isSome) :=
  ⟨fun h => .inl ⟨_, .inr s, .mu at_.h, .str s, _, rfl, by rw [if_neg (by decide)]; exact h⟩⟩
instance {p : Addr} {i : Nat} {kvs : List (Ky × DV)} {s : Str} {k : Bool → Prop} [at_ : AtM M p i (.dct kvs)] : Step (InA true M (.d (.str s)) (.m p) k) (k (!(valD kvs (.inr s)).isSome)) :=
  ⟨fun h => .inl ⟨_, .inr s, .mu at_.h, .str s, _, rfl, by rw [if_pos rfl]; exact h⟩⟩
/-! ### o[i] = v -/
/-- a place that is no slice -/
class AS (i : Expr) : Prop where
  h : ∀ (o : Expr) (p' : Pos) (env : Env) (v : Value), assign (.Subscript o i p') env v = (do
      let ov ← holding [v] (eval o env)
      let iv ← holding [v, ov] (eval i env)
      standAt p'
      holding [v, ov, iv] (setItem ov iv v)
      release [v, ov, iv] [])
instance {x : Str} {p : Pos} : AS (.Name x p) := ⟨fun _ _ _ _ => rfl⟩
instance {c : Const} {j : Nat} {p : Pos} : AS (.Constant c j p) := ⟨fun _ _ _ _ => rfl⟩
instance {a b : Expr} {p : Pos} : AS (.Subscript a b p) := ⟨fun _ _ _ _ => rfl⟩
instance {a b : Expr} {op : Operator} {p : Pos} : AS (.BinOp a op b p) := ⟨fun _ _ _ _ => rfl⟩
theorem sole_of {t : Expr} {l : Nat} {env : Env} (h : swapsWith e (some t) l env = pure false) : swapsWithSole [t] e l env = pure false := by
  unfold swapsWithSole
  exact h
def PutA (M : Mem) (x y v : DV) (k : Mem → Prop) : Prop := (∃ p i xs n j, x = .m p ∧ M[i]? = some (p, .lst xs) ∧ y = .d (.int n) ∧ ixN xs.length n = some j ∧ k (M.set i (p, .lst (xs.set j v)))) ∨
  ∃ p i kvs key, x = .m p ∧ M[i]? = some (p, .dct kvs) ∧ KD y key ∧ kvs.length < sizeLine ∧ k (M.set i (p, .dct (putKD kvs key v)))
theorem PSetor {t t' : TSet} (h : PSet X t) (h' : PSet X t') : PSet X (fun o i v H Q => t o i v H Q ∨ t' o i v H Q) := fun pins s σ H o i v ov iv u Q I r1 r2 r3 z => z.elim (fun z => h pins s σ H o i v ov iv u Q I r1 r2 r3 z) fun z => h' pins s σ H o i v ov iv u Q I r1 r2 r3 z
theorem hs_sub {i : Expr} {d : Nat} {p' : Pos} (hr : Rm d X.A) (h : HE X W e ds M (fun v M1 => HE X W o ds M1 (fun x M2 => HE X W i ds M2 (fun y M3 => PutA M3 x y v fun M4 => pn ds M4) (fun cls M3 => px cls ds M3)) (fun cls M2 => px cls ds M2)) (fun cls M1 => px cls ds M1))
    (hs : swapsWithSole [.Subscript o i p'] e pos.line X.env = pure false)
    (ha : ∀ v, assign (.Subscript o i p') X.env v = (do
      let ov ← holding [v] (eval o X.env)
      let iv ← holding [v, ov] (eval i X.env)
      standAt p'
      holding [v, ov, iv] (setItem ov iv v)
      release [v, ov, iv] [])) (hw : swappedStores [.Subscript o i p'] e X.env = pure none) : HS X W (.Assign [.Subscript o i p'] e pos) ds M ⟨pn, pr, pb, pc, px⟩ :=
  hs_of (ps_asg (pe_t X e) (pg_sub (pe_t X o) (pe_t X i) (PSetor set_list (set_dict (by have := hr.units; omega))) ha) hs hw) fun n S F0 H0 F H σ D I g1 g2 g3 g4 g5 =>
    h n S F0 H0 F H σ I _ (fun v F1 H1 M1 dv s1 I1 o1 q1 => q1 n S F0 H0 F1 H1 σ I1 _ (fun x F2 H2 M2 dx s2 I2 o2 q2 => q2 n S F0 H0 F2 H2 σ I2 _ (fun y F3 H3 M3 dy s3 I3 o3 q3 => by
      have ov := (o1.mono s2).mono s3
      have ox := o2.mono s3
      rcases q3 with ⟨p, j, xs, n', jj, rfl, hj, rfl, hx, q⟩ | ⟨p, j, kvs, key, rfl, hj, hk, hl, q⟩
      · obtain rfl : x = .ref p := ox
        cases o3
        obtain ⟨_, u, hu, ou⟩ := I3.mem _ (List.mem_of_getElem? hj)
        cases ou with
        | lst r => exact .inl ⟨p, _, n', jj, rfl, rfl, hu, by rw [r.len]; exact hx, g1 F3 _ _ σ ds ((s1.trans s2).trans s3) (I3.setM hj (.lst (VL.set ov jj r))) rfl q⟩
      · obtain rfl : x = .ref p := ox
        obtain rfl := hk.v o3
        obtain ⟨_, u, hu, ou⟩ := I3.mem _ (List.mem_of_getElem? hj)
        cases ou with
        | dct r => exact .inr ⟨p, _, rfl, DPut.k hu (by rw [r.len]; exact hl), g1 F3 _ _ σ ds ((s1.trans s2).trans s3) (I3.setM hj (.dct (VK'.put ov r))) rfl q⟩)
      fun cls F3 H3 M3 s3 I3 q3 => g5 cls F3 H3 M3 σ ds ((s1.trans s2).trans s3) I3 rfl q3) fun cls F2 H2 M2 s2 I2 q2 => g5 cls F2 H2 M2 σ ds (s1.trans s2) I2 rfl q2) fun cls F1 H1 M1 s1 I1 q1 => g5 cls F1 H1 M1 σ ds s1 I1 rfl q1
instance {i : Expr} {p' : Pos} [r : Rc X] [nc : NC e] [as : AS i] : Step (HS X W (.Assign [.Subscript o i p'] e pos) ds M ⟨pn, pr, pb, pc, px⟩)
    (HE X W e ds M (fun v M1 => HE X W o ds M1 (fun x M2 => HE X W i ds M2 (fun y M3 => PutA M3 x y v fun M4 => pn ds M4) (fun cls M3 => px cls ds M3)) (fun cls M2 => px cls ds M2)) (fun cls M1 => px cls ds M1)) :=
  ⟨fun h => r.h.elim fun _ hr => hs_sub hr h (sole_of (nc.h _ _ _)) (fun v => as.h o p' X.env v) (by with_unfolding_all rfl)⟩
def DpP (M : Mem) (i : Nat) (p : Addr) (kvs : List (Ky × DV)) (key : Ky) (v : DV) (k : Mem → Prop) : Prop := kvs.length < sizeLine ∧ SetP M i (p, .dct (putKD kvs key v)) k
instance {p : Addr} {i : Nat} {kvs : List (Ky × DV)} {s : Str} {v : DV} {k : Mem → Prop} [at_ : AtM M p i (.dct kvs)] : Step (PutA M (.m p) (.d (.str s)) v k) (DpP M i p kvs (.inr s) v k) := ⟨fun h => .inr ⟨p, i, kvs, .inr s, rfl, at_.h, .str s, h.1, h.2⟩⟩
instance {p : Addr} {i : Nat} {kvs : List (Ky × DV)} {n : Int} {v : DV} {k : Mem → Prop} [at_ : AtM M p i (.dct kvs)] : Step (PutA M (.m p) (.d (.int n)) v k) (DpP M i p kvs (.inl n) v k) := ⟨fun h => .inr ⟨p, i, kvs, .inl n, rfl, at_.h, .int n, h.1, h.2⟩⟩
/-! ### an empty dict, a copy -/
theorem he_dnew (h : ∀ p, R (.m p) ((p, .dct []) :: M)) : HE X W (.Dict [] [] pos) ds M R Xp := he_of pe_dnewK fun n S F0 H0 F H σ I Q q x => fun p hp => q _ F _ _ (.m p) (.refl _) (I.newC hp (.dct .nil)) rfl (h p)
instance : Step (HE X W (.Dict [] [] pos) ds M R Xp) (∀ p, R (.m p) ((p, .dct []) :: M)) := ⟨he_dnew⟩
/-- x = []: a list that may change -/
instance (priority := high) {x : Str} {i : Nat} {p p2 : Pos} [k : Kc X V L G B] [pl : PlC ds x i] [m : MmC L x] : Step (HS X W (.Assign [.Name x p] (.List [] p2) pos) ds M ⟨pn, pr, pb, pc, px⟩) (∀ q, UpP ds x i (.m q) fun ds' => pn ds' ((q, .lst []) :: M)) :=
  ⟨fun h => r_set k.k pl.h m.h (he_lstM (ha_nil ⟨by decide, h⟩)) (NC.h _ _ _)⟩
theorem call_dcopy : CallR X (.type "dict") (fun xs H Q => ∃ a kvs, xs = [.ref a] ∧ Rd H a (.dK kvs) ∧ ∀ p, H p = none → Q (.ref p) (upd H p (.dK kvs))) := by
  intro pins s σ H xs us Q I r h
  obtain ⟨a, kvs, rfl, hk, q⟩ := h
  obtain rfl := Vals.ref1 r
  exact d_copyOf I hk fun p s' hp I' => ⟨.ref p, _, I', rfl, q p hp⟩
theorem cd_dcopy {K : PySem.W.Frag} : CD K (fun xs H Q => ∃ a kvs, xs = [.ref a] ∧ Rd H a (.dK kvs) ∧ ∀ p, H p = none → Q (.ref p) (upd H p (.dK kvs))) (fun as M R => ∃ x kvs, as = [x] ∧ DOf M x kvs ∧ ∀ p, R (.m p) ((p, .dct kvs) :: M)) := by
  rintro S F0 H0 F H M σ ds vs as R Q I o ⟨x, kvs, rfl, hd, h⟩ q
  cases o with
  | cons ov on =>
    cases on
    obtain ⟨p, vs, rfl, hp, r⟩ := hd.get I ov
    exact ⟨p, vs, rfl, hp, fun z hz => q _ F _ _ (.m z) (.refl _) (I.newC hz (.dct r)) rfl (h z)⟩
/-! ### freezing -/
inductive Frz : MO → Dat → Prop
  | lst {l : List DV} {r : List Dat} (h : AllD l r) : Frz (.lst l) (.lst r)
  | lstM {r : List Dat} : Frz (.lst (r.map .d)) (.lst r)
  | tup {l : List DV} {r : List Dat} (h : AllD l r) : Frz (.tup l) (.tup r)
  | dct {r : List (Ky × Dat)} : Frz (.dct (r.map fun kv => (kv.1, .d kv.2))) (.dct r)
inductive FrzS (p : Addr) (d : Dat) : Slots → Slots → Prop
  | nil : FrzS p d [] []
  | hit {x : Str} {r s : Slots} (h : FrzS p d r s) : FrzS p d ((x, .m p) :: r) ((x, .d d) :: s)
  | keep {x : Str} {v : DV} {r s : Slots} (h : FrzS p d r s) : FrzS p d ((x, v) :: r) ((x, v) :: s)
theorem FrzS.names {p : Addr} {d : Dat} {r s : Slots} (h : FrzS p d r s) : s.map (·.1) = r.map (·.1) := by
  induction h with
  | nil => rfl
  | hit h ih => rw [List.map_cons, List.map_cons, ih]
  | keep h ih => rw [List.map_cons, List.map_cons, ih]
theorem FrzS.env {K : PySem.W.Frag} {F : Hp} {p : Addr} {d : Dat} (hp : Rp K F (.ref p) d) {r s : Slots} (h : FrzS p d r s) : ∀ {σ : L2.St}, EnvOk K F σ r → EnvOk K F σ s := by
  induction h with
  | nil => exact fun e => e
  | hit h ih =>
    intro σ e
    cases e with
    | cons a r =>
      obtain ⟨v, rfl, hv⟩ := a
      obtain rfl : v = .ref p := hv
      exact .cons ⟨_, rfl, hp⟩ (ih r)
  | keep h ih =>
    intro σ e
    cases e with
    | cons a r => exact .cons a (ih r)
/-- what stands at p when it is frozen as d -/
def FrzH (F H : Hp) (p : Addr) (u : HO) : MO → Prop
  | .dct _ => ∃ od, F p = some (.frz od u) ∧ H p = some (.frz od u)
  | _ => F p = some u ∧ H p = some u
theorem Frz.rp {K : PySem.W.Frag} {F H : Hp} {p : Addr} {o : HO} {m : MO} {d : Dat} (h : Frz m d) (hp : FrzH F H p o m) (ok : OOk K F o m) : Rp K F (.ref p) d := by
  cases h with
  | lst h =>
    cases ok with
    | lst r => exact .lst hp.1 (h.rp r)
  | lstM =>
    cases ok with
    | lst r => exact .lst hp.1 r.to_data
  | tup h =>
    cases ok with
    | tup r => exact .tup hp.1 (h.rp r)
  | dct =>
    cases ok with
    | dct r =>
      obtain ⟨od, hp, _⟩ := hp
      exact .dct hp r.to_data
/-- freezing, as the state sees it -/
theorem In.freezeD {X : Cx} {S : Addr → Prop} {F0 H0 F H : Hp} {M : Mem} {σ : L2.St} {ds : Slots} {i : Nat} {p : Addr} {m : MO} {d : Dat} {pins : List (Addr × Obj)} {s : Shared} (I : In X.K S F0 H0 F H M σ ds) (hi : M[i]? = some (p, m)) (hf : Frz m d) (I0 : Inv X pins σ H s) :
    ∃ F' H' o, Same F F' ∧ FrzH F' H' p o m ∧ OOk X.K F o m ∧ In X.K S F0 H0 F' H' (M.eraseIdx i) σ ds ∧ Inv X pins σ H' s := by
  obtain ⟨nf, _⟩ := I.mem _ (List.mem_of_getElem? hi)
  obtain ⟨o, ho, ok, J⟩ := I.freeze hi
  have sF : ∀ u, Same F (upd F p u) := fun u b v e => by rw [upd_ne (ne_of_none e nf)]; exact e
  cases hf with
  | lst h => exact ⟨_, _, o, sF o, ⟨upd_same, ho⟩, ok, J, I0⟩
  | lstM => exact ⟨_, _, o, sF o, ⟨upd_same, ho⟩, ok, J, I0⟩
  | tup h => exact ⟨_, _, o, sF o, ⟨upd_same, ho⟩, ok, J, I0⟩
  | dct =>
    cases ok with
    | dct r =>
      obtain ⟨od, I1⟩ := I0.lock ho trivial
      exact ⟨_, _, _, sF _, ⟨od, upd_same, upd_same⟩, .dct r, I.freezeL od hi, I1⟩
theorem hss_frz {st : List Stmt} {P : Po} {p : Addr} {i : Nat} {mo : MO} {d : Dat} {ds' : Slots} (hi : M[i]? = some (p, mo)) (hf : Frz mo d) (hs : FrzS p d ds ds') (h : HSs X W st ds' (M.eraseIdx i) P) : HSs X W st ds M P := fun n S F0 H0 F H σ D I g1 g2 g3 g4 g5 pins s I0 => by
  obtain ⟨F1, H1, o, sF, hp, ok, J, I1⟩ := I.freezeD hi hf I0
  have rp : Rp X.K F1 (.ref p) d := hf.rp hp (ok.mono sF)
  have nm := hs.names
  exact h (n.trans nm.symm) S F0 H0 F1 H1 σ D (J.slots (hs.env rp J.env)) (fun F' H' M' σ' es s' I' n' q => g1 F' H' M' σ' es (sF.trans s') I' (n'.trans nm) q) (fun v F' H' M' σ' es dv s' I' o' q => g2 v F' H' M' σ' es dv (sF.trans s') I' o' q)
    (fun F' H' M' σ' es s' I' n' q => g3 F' H' M' σ' es (sF.trans s') I' (n'.trans nm) q) (fun F' H' M' σ' es s' I' n' q => g4 F' H' M' σ' es (sF.trans s') I' (n'.trans nm) q) (fun cls F' H' M' σ' es s' I' n' q => g5 cls F' H' M' σ' es (sF.trans s') I' (n'.trans nm) q) pins s I1
/-! ### append -/
def AppP (M : Mem) (p : Addr) (y : DV) (k : Mem → Prop) : Prop := ∃ i xs, M[i]? = some (p, .lst xs) ∧ xs.length < sizeLine ∧ k (M.set i (p, .lst (xs ++ [y])))
theorem he_app (h : HE X W o ds M (fun x M1 => ObjP M1 x fun p _ m => (∃ ys, m = .lst ys) ∧ HA X W [e] ds M1 (fun dvs M2 => ∃ y, dvs = [y] ∧ AppP M2 p y fun M3 => R (.d .non) M3) Xp) Xp) (hbase : attributeBase o "append" X.env (eval o X.env) = eval o X.env)
    (hfew : ((backTo pos (starEach (e :: []) X.env)).all (fun x => !x.1) && (backToKw pos (keywordEach [] X.env)).all (fun x => x.1.isSome)
      && decide ((e :: []).length + ([] : List Keyword).length + (if ([] : List Keyword).isEmpty then 0 else 1) < 30)) = true)
    (hline : (apos.endLine == pos.line) = true) (hs : starEach (e :: []) X.env = (false, eval e X.env) :: starEach [] X.env) (hplain : (backTo pos (starEach [] X.env)).any (·.1) = false) : HE X W (.Call (.Attribute o "append" apos) [e] [] pos) ds M R Xp :=
  he_of (pe_bm PySem.F.plainAttrs_list PySem.F.slot_list_append PySem.F.type_list_append mt_append (pe_t X o) (pa_t X _) hbase hfew hline hs hplain) fun n S F0 H0 F H σ I Q q x => h n S F0 H0 F H σ I _ (fun v F1 H1 M1 dv s1 I1 o1 g1 => by
    obtain ⟨p, j, m, rfl, hj, ⟨ys, rfl⟩, g⟩ := g1
    obtain rfl : v = .ref p := o1
    obtain ⟨_, u, hu, ou⟩ := I1.mem _ (List.mem_of_getElem? hj)
    cases ou with
    | lst r1 =>
      refine ⟨.inl ⟨rfl, _, .of hu⟩, g n S F0 H0 F1 H1 σ I1 _ (fun vs F2 H2 M2 dvs s2 I2 o2 g2 => ?_) fun cls F2 H2 M2 s2 I2 g2 => x cls F2 H2 M2 (s1.trans s2) I2 g2⟩
      obtain ⟨y, rfl, i, xs, hi, hz, g2⟩ := g2
      cases o2 with
      | cons oy on =>
        cases on
        obtain ⟨_, u2, hu2, ou2⟩ := I2.mem _ (List.mem_of_getElem? hi)
        cases ou2 with
        | lst r => exact ⟨p, _, _, rfl, rfl, hu2, by rw [r.len]; exact hz, q _ F2 _ _ (.d .non) (s1.trans s2) (I2.setM hi (.lst (r.append (.cons oy .nil)))) (VOk.dat .non) g2⟩) x
theorem r_app (h : HE X W o ds M (fun x M1 => ObjP M1 x fun p _ m => (∃ ys, m = .lst ys) ∧ HA X W [e] ds M1 (fun dvs M2 => ∃ y, dvs = [y] ∧ AppP M2 p y fun M3 => R (.d .non) M3) Xp) Xp) (hbase : attributeBase o "append" X.env (eval o X.env) = eval o X.env := by with_unfolding_all rfl)
    (hfew : ((backTo pos (starEach (e :: []) X.env)).all (fun x => !x.1) && (backToKw pos (keywordEach [] X.env)).all (fun x => x.1.isSome)
      && decide ((e :: []).length + ([] : List Keyword).length + (if ([] : List Keyword).isEmpty then 0 else 1) < 30)) = true := by with_unfolding_all rfl)
    (hline : (apos.endLine == pos.line) = true := by with_unfolding_all rfl) (hs : starEach (e :: []) X.env = (false, eval e X.env) :: starEach [] X.env := by with_unfolding_all rfl) (hplain : (backTo pos (starEach [] X.env)).any (·.1) = false := by with_unfolding_all rfl) :
    HE X W (.Call (.Attribute o "append" apos) [e] [] pos) ds M R Xp := he_app h hbase hfew hline hs hplain
end
end CS

/-! CsFor: loops for use. -/
namespace CS
open PySem L2
class PassC (X : Cx) : Prop where
  h : PassesOwn (model X.prog X.w) X.A X.env X.xe
section
variable {X : Cx} {W : WX} {iter : Expr} {body : List Stmt} {ds : Slots} {M : Mem} {pos p p1 p2 : Pos} {V L G B : List Str} {x y : Str} {i j : Nat}
variable {pn : Slots → Mem → Prop} {pr : DV → Mem → Prop} {pb pc : Slots → Mem → Prop} {px : Value → Slots → Mem → Prop}
/-- what is asked of a loop over one name; J: what holds before each turn -/
def ForQ (X : Cx) (W : WX) (x : Str) (i : Nat) (body : List Stmt) (ds : Slots) (P : Po) (J : Nat → Slots → Mem → Prop) (xs : List Dat) (M1 : Mem) : Prop := J 0 ds M1 ∧
  (∀ n y ds' M', xs[n]? = some y → J n ds' M' → UpP ds' x i (.d y) fun ds2 => HSs X W body ds2 M' ⟨J (n + 1), P.r, P.n, J (n + 1), P.x⟩) ∧
  (∀ ds' M', J xs.length ds' M' → P.n ds' M')
theorem forN [k : Kc X V L G B] [m : MmC L x] [pl : PlC ds x i] [ps : PassC X] [c : Cc X] (h : HI X W (.Name x p) iter ds M (fun xs M1 => ∃ J, ForQ X W x i body ds ⟨pn, pr, pb, pc, px⟩ J xs M1) (fun cls M1 => px cls ds M1))
    (hs : ∀ z, foldedSetIterable iter X.env z = pure z := by intro _; with_unfolding_all rfl) : HS X W (.For (.Name x p) iter body [] pos) ds M ⟨pn, pr, pb, pc, px⟩ := by
  intro n
  refine hs_for (t := gName i) (f := fName x i) (is := [i]) ps.h c.h (pg_nm k.k m.h (by rw [n]; exact pl.h.name)) gs_name (fun n2 => ?_) hs n
  obtain ⟨wi, pi, hw⟩ := h n2
  refine ⟨wi, pi, fun S F0 H0 F H σ I Q q xx => hw S F0 H0 F H σ I Q (fun Jt xs F' H' M' s' I' it ⟨J, j0, turn, done⟩ => q Jt xs F' H' M' s' I' it ⟨J, j0, fun n z ds' M'' hz _ hj => turn n z ds' M'' hz hj, fun ds' M'' _ hj => done ds' M'' hj⟩) xx⟩
/-- two names -/
def ForQ2 (X : Cx) (W : WX) (x y : Str) (i j : Nat) (body : List Stmt) (ds : Slots) (P : Po) (J : Nat → Slots → Mem → Prop) (xs : List Dat) (M1 : Mem) : Prop := J 0 ds M1 ∧
  (∀ n z ds' M', xs[n]? = some z → J n ds' M' → ∃ a b, z = .tup [a, b] ∧ UpP ds' x i (.d a) fun ds1 => UpP ds1 y j (.d b) fun ds2 => HSs X W body ds2 M' ⟨J (n + 1), P.r, P.n, J (n + 1), P.x⟩) ∧
  (∀ ds' M', J xs.length ds' M' → P.n ds' M')
def One (dvs : List DV) (k : DV → Prop) : Prop := ∃ y, dvs = [y] ∧ k y
instance {d : DV} {k : DV → Prop} : Step (One [d] k) (k d) := ⟨fun h => ⟨d, rfl, h⟩⟩
def LstM (m : MO) (k : Prop) : Prop := (∃ ys, m = .lst ys) ∧ k
instance {xs : List DV} {k : Prop} : Step (LstM (.lst xs) k) k := ⟨fun h => ⟨⟨xs, rfl⟩, h⟩⟩
instance {M : Mem} {p : Addr} {y : DV} {i : Nat} {xs : List DV} {k : Mem → Prop} [a : AtM M p i (.lst xs)] : Step (AppP M p y k) (xs.length < sizeLine ∧ SetP M i (p, .lst (xs ++ [y])) k) := ⟨fun h => ⟨i, xs, a.h, h.1, h.2⟩⟩
theorem r_appS {e o : Expr} {R : DV → Mem → Prop} {Xp : Value → Mem → Prop} {apos : Pos} (h : HE X W o ds M (fun x M1 => ObjP M1 x fun p _ m => LstM m (HA X W [e] ds M1 (fun dvs M2 => One dvs fun y => AppP M2 p y fun M3 => R (.d .non) M3) Xp)) Xp) (hbase : attributeBase o "append" X.env (eval o X.env) = eval o X.env := by with_unfolding_all rfl)
    (hfew : ((backTo pos (starEach (e :: []) X.env)).all (fun x => !x.1) && (backToKw pos (keywordEach [] X.env)).all (fun x => x.1.isSome)
      && decide ((e :: []).length + ([] : List Keyword).length + (if ([] : List Keyword).isEmpty then 0 else 1) < 30)) = true := by with_unfolding_all rfl)
    (hline : (apos.endLine == pos.line) = true := by with_unfolding_all rfl) (hs : starEach (e :: []) X.env = (false, eval e X.env) :: starEach [] X.env := by with_unfolding_all rfl) (hplain : (backTo pos (starEach [] X.env)).any (·.1) = false := by with_unfolding_all rfl) :
    HE X W (.Call (.Attribute o "append" apos) [e] [] pos) ds M R Xp := he_app h hbase hfew hline hs hplain
end
end CS

/-! CsZip: zip(t, l), t a tuple, l a list. -/
namespace CS
open PySem PySem.Spec PyProof.Rows L2
/-- a tuple at a, a list at b, item by item in new pairs -/
def ItzM (K : PySem.W.Frag) (a b : Addr) : It :=
  ⟨fun i H => ∃ (xs ys : List V) (x y : V), SqT K H a xs ∧ SqL K H b ys ∧ xs[i]? = some x ∧ ys[i]? = some y,
    fun i H v H' => ∃ T x y, v = .ref T ∧ H T = none ∧ H' = upd H T (.tup [x, y]) ∧ (∀ xs, SqT K H a xs → xs[i]? = some x) ∧ ∀ ys, SqL K H b ys → ys[i]? = some y,
    fun i H => ∃ xs ys : List V, SqT K H a xs ∧ SqL K H b ys ∧ i ≤ xs.length ∧ i ≤ ys.length ∧ (i = xs.length ∨ i = ys.length)⟩
def cells (z TI TO i1 i2 : Addr) : List Addr := [z, TI, TO, i1, i2]
theorem sep_of {z TI TO i1 i2 a b : Addr} (D : ZipApart z TI TO i1 i2 a b) : ZipSep2 z TI TO i1 i2 [i1, a] [i2, b] := by
  obtain ⟨h1, h2, h3, h4, h5, h6, h7, h8, h9, h10, h11, h12, h13, h14, h15, h16, h17, h18⟩ := D
  refine ⟨h1, h2, h5, h6, ?_, ?_, ?_, h7, ?_, ?_, ?_, ?_, ?_⟩ <;> simp only [List.mem_cons, List.not_mem_nil, or_false, not_or, true_or, or_true]
  · exact ⟨h3.symm, h11.symm⟩
  · exact ⟨h8, h12.symm⟩
  · exact ⟨h4.symm, h15.symm⟩
  · exact ⟨h9, h16.symm⟩
  · exact ⟨h10, h17.symm⟩
  · exact ⟨h10.symm, h14.symm⟩
theorem turn_zipM {P : Program} {w : World} {K : PySem.W.Frag} {elts : List Expr} {kk : Nat} {tpos : Pos} {a b z TI TO i1 i2 : Addr} (D : ZipApart z TI TO i1 i2 a b) :
    Turn P w K (.Tuple elts kk tpos) (ItzM K a b) (cells z TI TO i1 i2) z (fun i h => IsZip h z TI TO .none ∧ IsTupOf2 h TI (.ref i1) (.ref i2) ∧ (∃ x y, IsTupOf2 h TO x y) ∧ h.IsTupleIter i1 a i ∧ h.IsListIter i2 b i) := by
  have S := sep_of D
  have inC : ∀ c, c ∈ cells z TI TO i1 i2 ↔ c = z ∨ c = TI ∨ c = TO ∨ c = i1 ∨ c = i2 := fun c => by simp [cells]
  refine ⟨by simp [cells], fun i h st c hc => ?_, fun i h h' st k => ?_, ?_, ?_, fun A i s Q E st h => wpAny_pyIter_zip st.1 h⟩
  · obtain ⟨q1, q2, ⟨x, y, q3⟩, ⟨o1, e1, _, d1⟩, ⟨o2, e2, _, d2⟩⟩ := st
    rcases (inC c).mp hc with rfl | rfl | rfl | rfl | rfl
    · exact ⟨_, q1, fun v z => nomatch z⟩
    · exact ⟨_, q2, fun v z => nomatch z⟩
    · exact ⟨_, q3, fun v z => nomatch z⟩
    · exact ⟨o1, e1, fun v z => by rw [d1] at z; cases z⟩
    · exact ⟨o2, e2, fun v z => by rw [d2] at z; cases z⟩
  · obtain ⟨q1, q2, ⟨x, y, q3⟩, q4, q5⟩ := st
    have kk : ∀ c, (c = z ∨ c = TI ∨ c = TO ∨ c = i1 ∨ c = i2) → ∀ o, h.get? c = some o → h'.get? c = some o := fun c hc => k c ((inC c).mpr hc)
    exact ⟨kk z (.inl rfl) _ q1, kk TI (.inr (.inl rfl)) _ q2, ⟨x, y, kk TO (.inr (.inr (.inl rfl))) _ q3⟩, q4.at fun o => kk i1 (.inr (.inr (.inr (.inl rfl)))) o, q5.at fun o => kk i2 (.inr (.inr (.inr (.inr rfl)))) o⟩
  · intro X hP hw hK hc i pins s σ H E I hf st hg
    subst hP hw hK
    obtain ⟨q1, q2, ⟨x0, y0, q3⟩, q4, q5⟩ := st
    obtain ⟨xs, ys, x, y, sx, sy, hx, hy⟩ := hg
    obtain ⟨us, ru, pu, _⟩ := I.tuple sx
    obtain ⟨ws, rw', pw, _⟩ := I.list sy
    have lx : i < us.toArray.size := by rw [List.size_toArray, ← ru.length]; exact (List.getElem?_eq_some_iff.mp hx).1
    have ly : i < ws.toArray.size := by rw [List.size_toArray, ← rw'.length]; exact (List.getElem?_eq_some_iff.mp hy).1
    have zl : z < s.heap.objs.size := Heap.lt_size q1
    have calm : X.A.in1.handled = none := I.ok.hd hc
    refine wpAny_pyNext_zipD2_item S (Draws.tuple calm i1 a D.l1i1 us.toArray) (Draws.list calm i2 b D.l2i2 ws.toArray) q1 q2 q3 ⟨q4, pu⟩ ⟨q5, pw.isList⟩ lx ly fun u v h' tk gu gv z' TO' n1 n2 tp sz keep => ?_
    obtain ⟨u', hu', ru'⟩ := ru.get hx
    obtain ⟨v', hv', rv'⟩ := rw'.get hy
    obtain rfl : u = u' := by
      have gu : us.toArray[i]? = some u := gu
      rw [List.getElem?_toArray, hu'] at gu
      exact (Option.some.inj gu).symm
    obtain rfl : v = v' := by
      have gv : ws.toArray[i]? = some v := gv
      rw [List.getElem?_toArray, hv'] at gv
      exact (Option.some.inj gv).symm
    refine ⟨_, rfl, wpAny_letOwnedTupleGo_zip (s := { s with heap := h', toks := tk }) z' fun h'' z'' sb => ?_⟩
    have tp2 : h''.get? s.heap.objs.size = some { cls := .type "tuple", data := .seq #[u, v] } := (sb.2 _ (Nat.ne_of_gt zl)).trans tp
    have new : ObjOk X.prog X.w (upd H s.heap.objs.size (.tup [x, y])) h'' s.heap.objs.size (.tup [x, y]) := ⟨by show 2 ≤ sizeLine; decide, [u, v], .cons ru' (.cons rv' .nil), ⟨_, tp2, rfl, _, rfl⟩⟩
    have out : ∀ c o, c ∉ cells z TI TO i1 i2 → s.heap.get? c = some o → h''.get? c = some o := fun c o hb q => by
      have nb : ∀ d, (d = z ∨ d = TI ∨ d = TO ∨ d = i1 ∨ d = i2) → c ≠ d := fun d hd e => hb ((inC c).mpr (e ▸ hd))
      exact (sb.2 c (nb z (.inl rfl))).trans (keep c o (nb z (.inl rfl)) (nb TO (.inr (.inr (.inl rfl)))) (nb i1 (.inr (.inr (.inr (.inl rfl))))) (nb i2 (.inr (.inr (.inr (.inr rfl))))) q)
    have J : Inv X pins σ (upd H s.heap.objs.size (.tup [x, y])) { s with heap := h'', toks := tk } := I.turnedNew (t' := tk) (ch := cells z TI TO i1 i2) out hf (Nat.le_refl _) new
    refine ⟨.ref s.heap.objs.size, _, J, rfl, ⟨_, x, y, rfl, I.hok.fresh (Nat.le_refl _), rfl, fun l hl => by rw [I.tuple_inj hl sx]; exact hx, fun l hl => by rw [I.list_inj hl sy]; exact hy⟩, ⟨z'', ?_, ⟨u, v, ?_⟩, ?_, ?_⟩, fun c hcm => ?_⟩
    · exact (sb.2 _ D.TIz).trans (keep _ _ D.TIz D.TITO D.TIi1 D.TIi2 q2)
    · exact (sb.2 _ D.TOz).trans TO'
    · exact n1.1.at fun o q => (sb.2 _ D.i1z).trans q
    · exact n2.1.at fun o q => (sb.2 _ D.i2z).trans q
    · have lt : c < s.heap.objs.size := by
        rcases (inC c).mp hcm with rfl | rfl | rfl | rfl | rfl
        · exact zl
        · exact Heap.lt_size q2
        · exact Heap.lt_size q3
        · obtain ⟨_, e1, _⟩ := q4
          exact Heap.lt_size e1
        · obtain ⟨_, e2, _⟩ := q5
          exact Heap.lt_size e2
      rw [upd_ne (Nat.ne_of_lt lt)]
      exact (hf c hcm).1
  · intro X hP hw hK hc i pins s σ H E I hf st hg
    subst hP hw hK
    obtain ⟨q1, q2, ⟨x0, y0, q3⟩, q4, q5⟩ := st
    obtain ⟨xs, ys, sx, sy, l1, l2, hend⟩ := hg
    obtain ⟨us, ru, pu, _⟩ := I.tuple sx
    obtain ⟨ws, rw', pw, _⟩ := I.list sy
    have e1 : us.toArray.size = xs.length := by rw [List.size_toArray, ← ru.length]
    have e2 : ws.toArray.size = ys.length := by rw [List.size_toArray, ← rw'.length]
    have calm : X.A.in1.handled = none := I.ok.hd hc
    refine wpAny_pyNext_zipD2_end S (Draws.tuple calm i1 a D.l1i1 us.toArray) (Draws.list calm i2 b D.l2i2 ws.toArray) q1 q2 q3 ⟨q4, pu⟩ ⟨q5, pw.isList⟩ (by rw [e1]; exact l1) (by rw [e2]; exact l2) (by rw [e1, e2]; exact hend) fun h' tk keep => ⟨rfl, ?_⟩
    refine I.turnedL (t' := tk) (ch := cells z TI TO i1 i2) (fun c o hb q => ?_) hf
    have nb : ∀ d, (d = z ∨ d = TI ∨ d = TO ∨ d = i1 ∨ d = i2) → c ≠ d := fun d hd e => hb ((inC c).mpr (e ▸ hd))
    exact keep c o (nb z (.inl rfl)) (nb TO (.inr (.inr (.inl rfl)))) (nb i1 (.inr (.inr (.inr (.inl rfl))))) (nb i2 (.inr (.inr (.inr (.inr rfl))))) q
def iZipM (K : PySem.W.Frag) (ta : TA) : TI := fun σ H R => ta σ H fun vs H1 => ∃ a b xs ys, vs = [.ref a, .ref b] ∧ SqT K H1 a xs ∧ SqL K H1 b ys ∧ R (ItzM K a b) H1
theorem pi_zipM {X : Cx} {e e2 : Expr} {ta : TA} {p pos tpos : Pos} {elts : List Expr} {kk : Nat} (hg : Gl X "zip") (hm : X.mg "zip" = none) (ha : PA X [e, e2] ta)
    (hs : starEach [e, e2] X.env = (false, eval e X.env) :: starEach [e2] X.env) (hpl : (backTo pos (starEach [e2] X.env)).any (·.1) = false) : PI X (.Tuple elts kk tpos) (.Call (.Name "zip" p) [e, e2] [] pos) (iZipM X.K ta) := by
  refine ⟨fun pins s σ H R I h => Call_ (ld_blt I hg hm PyProof.Rows.boot_zip (PyProof.Rows.callWith_type1 (thn (ha.run pos pins s σ H _ I h) fun us s1 hh => ?_) hs hpl))⟩
  obtain ⟨vs, H1, I1, r1, a, b, xs, ys, rfl, sx, sy, q⟩ := hh
  cases r1 with
  | cons r rr =>
    cases rr with
    | cons r' rr =>
      cases rr
      cases r
      cases r'
      obtain ⟨its, ru, pu, _⟩ := I1.tuple sx
      obtain ⟨its2, rw', pw, _⟩ := I1.list sy
      have la : a < s1.heap.objs.size := let ⟨o, ho, _⟩ := pu; Heap.lt_size ho
      have lb : b < s1.heap.objs.size := pw.lt
      refine zip_begins2 (begins_tuple a its.toArray) (begins_list b its2.toArray) pu pw.isList fun h' c1 c2 c3 g1 g2 sz keep => wpAny_pyIter_zip c1 ?_
      have J : Inv X pins σ H1 { s1 with heap := h' } := I1.kept (t' := s1.toks) keep
      refine ⟨s1.heap.objs.size + 4, cells (s1.heap.objs.size + 4) (s1.heap.objs.size + 2) (s1.heap.objs.size + 3) s1.heap.objs.size (s1.heap.objs.size + 1), _, _, H1, rfl, J, turn_zipM (PySem.W.ktu_apart s1.heap.objs.size a b la lb), ⟨c1, c2, ⟨_, _, c3⟩, ⟨_, g1, rfl, rfl⟩, ⟨_, g2, rfl, rfl⟩⟩, fun c hc => ?_, q⟩
      have hle : s1.heap.objs.size ≤ c := by
        simp only [cells, List.mem_cons, List.not_mem_nil, or_false] at hc
        rcases hc with rfl | rfl | rfl | rfl | rfl <;> first | exact Nat.le_refl _ | exact Nat.le_add_right _ _
      exact I1.fpOk hle (I1.hok.fresh hle)
def zipT2 : List Dat → List Dat → List Dat
  | x :: xs, y :: ys => .tup [x, y] :: zipT2 xs ys
  | _, _ => []
theorem zipT2_len : ∀ xs ys, (zipT2 xs ys).length = min xs.length ys.length
  | [], _ => by simp [zipT2]
  | _ :: _, [] => by simp [zipT2]
  | x :: xs, y :: ys => by
    rw [zipT2, List.length_cons, zipT2_len xs ys, List.length_cons, List.length_cons]
    omega
theorem zipT2_get : ∀ {xs ys : List Dat} {i : Nat} {x y : Dat}, xs[i]? = some x → ys[i]? = some y → (zipT2 xs ys)[i]? = some (.tup [x, y])
  | [], _, _, _, _, h, _ => by simp at h
  | _ :: _, [], _, _, _, _, h => by simp at h
  | _ :: _, _ :: _, 0, _, _, h1, h2 => by cases h1; cases h2; rfl
  | _ :: xs, _ :: ys, i + 1, _, _, h1, h2 => by
    rw [zipT2, List.getElem?_cons_succ]
    exact zipT2_get (xs := xs) (ys := ys) (by simpa using h1) (by simpa using h2)
theorem itd_zipM {K : PySem.W.Frag} {F : Hp} {a b : Addr} {vs ws : List V} {xs ys : List Dat} (ha : F a = some (.tup vs)) (hb : F b = some (.lst ws)) (rx : RpL K F vs xs) (ry : RpL K F ws ys) : ItD K (ItzM K a b) F (zipT2 xs ys) := fun F' H' s1 s2 i => by
  have pa : SqT K H' a vs := .of (s2 _ _ (s1 _ _ ha))
  have pb : SqL K H' b ws := .of (s2 _ _ (s1 _ _ hb))
  rw [zipT2_len]
  refine ⟨fun h => ?_, fun h => ?_, fun v H2 hy hi => ?_⟩
  · have h1 : i < vs.length := by rw [rx.len]; omega
    have h2 : i < ws.length := by rw [ry.len]; omega
    exact ⟨vs, ws, vs[i], ws[i], pa, pb, List.getElem?_eq_getElem h1, List.getElem?_eq_getElem h2⟩
  · have l1 := rx.len
    have l2 := ry.len
    exact ⟨vs, ws, pa, pb, by omega, by omega, by omega⟩
  · obtain ⟨T, x, y, rfl, hT, rfl, gx, gy⟩ := hy
    obtain ⟨dx, ex, ox⟩ := rx.getV (gx vs pa)
    obtain ⟨dy, ey, oy⟩ := ry.getV (gy ws pb)
    have y := Ext.lay (.tup [x, y]) s2 hT
    exact ⟨_, .tup [dx, dy], y, zipT2_get ex ey, .tup upd_same (.cons ((ox.mono s1).mono y.ff) (.cons ((oy.mono s1).mono y.ff) .nil))⟩
section
variable {X : Cx} {W : WX} {e e2 : Expr} {ds : Slots} {M : Mem} {Xp : Value → Mem → Prop} {V' L G B : List Str} {p pos tpos : Pos} {elts : List Expr} {kk : Nat}
theorem hi_zipM {k : List Dat → Mem → Prop} (kx : Kx X V' L G B) (m : Mm B "zip") (h : HA X W [e, e2] ds M (fun dvs M1 => ∃ xs ys, dvs = [.d (.tup xs), .d (.lst ys)] ∧ k (zipT2 xs ys) M1) Xp)
    (hs : starEach [e, e2] X.env = (false, eval e X.env) :: starEach [e2] X.env) (hpl : (backTo pos (starEach [e2] X.env)).any (·.1) = false) : HI X W (.Tuple elts kk tpos) (.Call (.Name "zip" p) [e, e2] [] pos) ds M k Xp := fun n =>
  ⟨_, pi_zipM (kx.bl _ m.mem).1 (kx.bl _ m.mem).2.1 (pa_t X _) hs hpl, fun S F0 H0 F H σ I Q q x => h n S F0 H0 F H σ I _ (fun vs F1 H1 M1 dvs s1 I1 o1 g1 => by
    obtain ⟨xs, ys, rfl, g⟩ := g1
    cases o1 with
    | cons oa o2 =>
      cases o2 with
      | cons ob o3 =>
        cases o3
        have oa : Rp X.K F1 _ (.tup xs) := oa
        have ob : Rp X.K F1 _ (.lst ys) := ob
        cases oa with
        | tup hF r =>
          cases ob with
          | lst hF2 r2 => exact ⟨_, _, _, _, rfl, .of (I1.fh _ _ hF), .of (I1.fh _ _ hF2), q _ _ F1 H1 M1 s1 I1 (itd_zipM hF hF2 r r2) g⟩) x⟩
def ZipP (dvs : List DV) (k : List Dat → Prop) : Prop := ∃ xs ys, dvs = [.d (.tup xs), .d (.lst ys)] ∧ k (zipT2 xs ys)
instance {xs ys : List Dat} {k : List Dat → Prop} : Step (ZipP [.d (.tup xs), .d (.lst ys)] k) (k (zipT2 xs ys)) := ⟨fun h => ⟨xs, ys, rfl, h⟩⟩
instance {k : List Dat → Mem → Prop} [kc : Kc X V' L G B] [m : MmC B "zip"] [s : NS e] [s2 : NSs [e2]] : Step (HI X W (.Tuple elts kk tpos) (.Call (.Name "zip" p) [e, e2] [] pos) ds M k Xp) (HA X W [e, e2] ds M (fun dvs M1 => ZipP dvs fun xs => k xs M1) Xp) :=
  ⟨fun h => hi_zipM kc.k m.h h (s.h [e2] X.env) (s2.back pos X.env)⟩
variable {iter : Expr} {body : List Stmt} {p1 p2 : Pos} {x y : Str} {i j : Nat}
variable {pn : Slots → Mem → Prop} {pr : DV → Mem → Prop} {pb pc : Slots → Mem → Prop} {px : Value → Slots → Mem → Prop}
/-- for x, y in pairs -/
theorem forT [k : Kc X V' L G B] [m1 : MmC L x] [m2 : MmC L y] [l1 : PlC ds x i] [l2 : PlC ds y j] [ps : PassC X] [c : Cc X]
    (h : HI X W (.Tuple [.Name x p1, .Name y p2] kk tpos) iter ds M (fun xs M1 => ∃ J, ForQ2 X W x y i j body ds ⟨pn, pr, pb, pc, px⟩ J xs M1) (fun cls M1 => px cls ds M1))
    (hs : ∀ z, foldedSetIterable iter X.env z = pure z := by intro _; with_unfolding_all rfl) : HS X W (.For (.Tuple [.Name x p1, .Name y p2] kk tpos) iter body [] pos) ds M ⟨pn, pr, pb, pc, px⟩ := by
  intro n
  refine hs_for (f := fTup 2 (fCons (fName x i) (fCons (fName y j) fNil))) ps.h c.h
    (pg_tup (n := 2) c.h (pgs_cons (pg_nm k.k m1.h (by rw [n]; exact l1.h.name)) (pgs_cons (pg_nm k.k m2.h (by rw [n]; exact l2.h.name)) pgs_nil (by with_unfolding_all rfl)) (by with_unfolding_all rfl)) (by with_unfolding_all rfl) (by with_unfolding_all rfl))
    (gs_tup (gs_cons gs_name (gs_cons gs_name gs_nil))) (fun n2 => ?_) hs n
  obtain ⟨wi, pi, hw⟩ := h n2
  refine ⟨wi, pi, fun S F0 H0 F H σ I Q q xx => hw S F0 H0 F H σ I Q (fun Jt xs F' H' M' s' I' it ⟨J, j0, turn, done⟩ => q Jt xs F' H' M' s' I' it ⟨J, j0, fun n z ds' M'' hz _ hj => ?_, fun ds' M'' _ hj => done ds' M'' hj⟩) xx⟩
  obtain ⟨a, b, rfl, ds1, u1, ds2, u2, hh⟩ := turn n z ds' M'' hz hj
  exact ⟨[a, b], rfl, rfl, a, [b], rfl, ds1, u1, b, [], rfl, ds2, u2, rfl, hh⟩
end
end CS

/-! CsObj: methods and makings as steps. -/
namespace CS
open PySem L2
/-! fields and methods told apart -/
instance : SNe "functions" "fuel" := ⟨by decide +kernel⟩
instance : SNe "functions" "made" := ⟨by decide +kernel⟩
instance : SNe "functions" "going" := ⟨by decide +kernel⟩
instance : SNe "functions" "rows" := ⟨by decide +kernel⟩
instance : SNe "functions" "starts" := ⟨by decide +kernel⟩
instance : SNe "functions" "at" := ⟨by decide +kernel⟩
instance : SNe "functions" "stack" := ⟨by decide +kernel⟩
instance : SNe "functions" "frames" := ⟨by decide +kernel⟩
instance : SNe "functions" "worked" := ⟨by decide +kernel⟩
instance : SNe "functions" "called" := ⟨by decide +kernel⟩
instance : SNe "functions" "enter" := ⟨by decide +kernel⟩
instance : SNe "functions" "call" := ⟨by decide +kernel⟩
instance : SNe "functions" "work" := ⟨by decide +kernel⟩
instance : SNe "functions" "append" := ⟨by decide +kernel⟩
instance : SNe "functions" "pop" := ⟨by decide +kernel⟩
instance : SNe "fuel" "functions" := ⟨by decide +kernel⟩
instance : SNe "fuel" "made" := ⟨by decide +kernel⟩
instance : SNe "fuel" "going" := ⟨by decide +kernel⟩
instance : SNe "fuel" "rows" := ⟨by decide +kernel⟩
instance : SNe "fuel" "starts" := ⟨by decide +kernel⟩
instance : SNe "fuel" "at" := ⟨by decide +kernel⟩
instance : SNe "fuel" "stack" := ⟨by decide +kernel⟩
instance : SNe "fuel" "frames" := ⟨by decide +kernel⟩
instance : SNe "fuel" "worked" := ⟨by decide +kernel⟩
instance : SNe "fuel" "called" := ⟨by decide +kernel⟩
instance : SNe "fuel" "enter" := ⟨by decide +kernel⟩
instance : SNe "fuel" "call" := ⟨by decide +kernel⟩
instance : SNe "fuel" "work" := ⟨by decide +kernel⟩
instance : SNe "fuel" "append" := ⟨by decide +kernel⟩
instance : SNe "fuel" "pop" := ⟨by decide +kernel⟩
instance : SNe "made" "functions" := ⟨by decide +kernel⟩
instance : SNe "made" "fuel" := ⟨by decide +kernel⟩
instance : SNe "made" "going" := ⟨by decide +kernel⟩
instance : SNe "made" "rows" := ⟨by decide +kernel⟩
instance : SNe "made" "starts" := ⟨by decide +kernel⟩
instance : SNe "made" "at" := ⟨by decide +kernel⟩
instance : SNe "made" "stack" := ⟨by decide +kernel⟩
instance : SNe "made" "frames" := ⟨by decide +kernel⟩
instance : SNe "made" "worked" := ⟨by decide +kernel⟩
instance : SNe "made" "called" := ⟨by decide +kernel⟩
instance : SNe "made" "enter" := ⟨by decide +kernel⟩
instance : SNe "made" "call" := ⟨by decide +kernel⟩
instance : SNe "made" "work" := ⟨by decide +kernel⟩
instance : SNe "made" "append" := ⟨by decide +kernel⟩
instance : SNe "made" "pop" := ⟨by decide +kernel⟩
instance : SNe "going" "functions" := ⟨by decide +kernel⟩
instance : SNe "going" "fuel" := ⟨by decide +kernel⟩
instance : SNe "going" "made" := ⟨by decide +kernel⟩
instance : SNe "going" "rows" := ⟨by decide +kernel⟩
instance : SNe "going" "starts" := ⟨by decide +kernel⟩
instance : SNe "going" "at" := ⟨by decide +kernel⟩
instance : SNe "going" "stack" := ⟨by decide +kernel⟩
instance : SNe "going" "frames" := ⟨by decide +kernel⟩
instance : SNe "going" "worked" := ⟨by decide +kernel⟩
instance : SNe "going" "called" := ⟨by decide +kernel⟩
instance : SNe "going" "enter" := ⟨by decide +kernel⟩
instance : SNe "going" "call" := ⟨by decide +kernel⟩
instance : SNe "going" "work" := ⟨by decide +kernel⟩
instance : SNe "going" "append" := ⟨by decide +kernel⟩
instance : SNe "going" "pop" := ⟨by decide +kernel⟩
instance : SNe "rows" "functions" := ⟨by decide +kernel⟩
instance : SNe "rows" "fuel" := ⟨by decide +kernel⟩
instance : SNe "rows" "made" := ⟨by decide +kernel⟩
instance : SNe "rows" "going" := ⟨by decide +kernel⟩
instance : SNe "rows" "starts" := ⟨by decide +kernel⟩
instance : SNe "rows" "at" := ⟨by decide +kernel⟩
instance : SNe "rows" "stack" := ⟨by decide +kernel⟩
instance : SNe "rows" "frames" := ⟨by decide +kernel⟩
instance : SNe "rows" "worked" := ⟨by decide +kernel⟩
instance : SNe "rows" "called" := ⟨by decide +kernel⟩
instance : SNe "rows" "enter" := ⟨by decide +kernel⟩
instance : SNe "rows" "call" := ⟨by decide +kernel⟩
instance : SNe "rows" "work" := ⟨by decide +kernel⟩
instance : SNe "rows" "append" := ⟨by decide +kernel⟩
instance : SNe "rows" "pop" := ⟨by decide +kernel⟩
instance : SNe "starts" "functions" := ⟨by decide +kernel⟩
instance : SNe "starts" "fuel" := ⟨by decide +kernel⟩
instance : SNe "starts" "made" := ⟨by decide +kernel⟩
instance : SNe "starts" "going" := ⟨by decide +kernel⟩
instance : SNe "starts" "rows" := ⟨by decide +kernel⟩
instance : SNe "starts" "at" := ⟨by decide +kernel⟩
instance : SNe "starts" "stack" := ⟨by decide +kernel⟩
instance : SNe "starts" "frames" := ⟨by decide +kernel⟩
instance : SNe "starts" "worked" := ⟨by decide +kernel⟩
instance : SNe "starts" "called" := ⟨by decide +kernel⟩
instance : SNe "starts" "enter" := ⟨by decide +kernel⟩
instance : SNe "starts" "call" := ⟨by decide +kernel⟩
instance : SNe "starts" "work" := ⟨by decide +kernel⟩
instance : SNe "starts" "append" := ⟨by decide +kernel⟩
instance : SNe "starts" "pop" := ⟨by decide +kernel⟩
instance : SNe "at" "functions" := ⟨by decide +kernel⟩
instance : SNe "at" "fuel" := ⟨by decide +kernel⟩
instance : SNe "at" "made" := ⟨by decide +kernel⟩
instance : SNe "at" "going" := ⟨by decide +kernel⟩
instance : SNe "at" "rows" := ⟨by decide +kernel⟩
instance : SNe "at" "starts" := ⟨by decide +kernel⟩
instance : SNe "at" "stack" := ⟨by decide +kernel⟩
instance : SNe "at" "frames" := ⟨by decide +kernel⟩
instance : SNe "at" "worked" := ⟨by decide +kernel⟩
instance : SNe "at" "called" := ⟨by decide +kernel⟩
instance : SNe "at" "enter" := ⟨by decide +kernel⟩
instance : SNe "at" "call" := ⟨by decide +kernel⟩
instance : SNe "at" "work" := ⟨by decide +kernel⟩
instance : SNe "at" "append" := ⟨by decide +kernel⟩
instance : SNe "at" "pop" := ⟨by decide +kernel⟩
instance : SNe "stack" "functions" := ⟨by decide +kernel⟩
instance : SNe "stack" "fuel" := ⟨by decide +kernel⟩
instance : SNe "stack" "made" := ⟨by decide +kernel⟩
instance : SNe "stack" "going" := ⟨by decide +kernel⟩
instance : SNe "stack" "rows" := ⟨by decide +kernel⟩
instance : SNe "stack" "starts" := ⟨by decide +kernel⟩
instance : SNe "stack" "at" := ⟨by decide +kernel⟩
instance : SNe "stack" "frames" := ⟨by decide +kernel⟩
instance : SNe "stack" "worked" := ⟨by decide +kernel⟩
instance : SNe "stack" "called" := ⟨by decide +kernel⟩
instance : SNe "stack" "enter" := ⟨by decide +kernel⟩
instance : SNe "stack" "call" := ⟨by decide +kernel⟩
instance : SNe "stack" "work" := ⟨by decide +kernel⟩
instance : SNe "stack" "append" := ⟨by decide +kernel⟩
instance : SNe "stack" "pop" := ⟨by decide +kernel⟩
instance : SNe "frames" "functions" := ⟨by decide +kernel⟩
instance : SNe "frames" "fuel" := ⟨by decide +kernel⟩
instance : SNe "frames" "made" := ⟨by decide +kernel⟩
instance : SNe "frames" "going" := ⟨by decide +kernel⟩
instance : SNe "frames" "rows" := ⟨by decide +kernel⟩
instance : SNe "frames" "starts" := ⟨by decide +kernel⟩
instance : SNe "frames" "at" := ⟨by decide +kernel⟩
instance : SNe "frames" "stack" := ⟨by decide +kernel⟩
instance : SNe "frames" "worked" := ⟨by decide +kernel⟩
instance : SNe "frames" "called" := ⟨by decide +kernel⟩
instance : SNe "frames" "enter" := ⟨by decide +kernel⟩
instance : SNe "frames" "call" := ⟨by decide +kernel⟩
instance : SNe "frames" "work" := ⟨by decide +kernel⟩
instance : SNe "frames" "append" := ⟨by decide +kernel⟩
instance : SNe "frames" "pop" := ⟨by decide +kernel⟩
instance : SNe "worked" "functions" := ⟨by decide +kernel⟩
instance : SNe "worked" "fuel" := ⟨by decide +kernel⟩
instance : SNe "worked" "made" := ⟨by decide +kernel⟩
instance : SNe "worked" "going" := ⟨by decide +kernel⟩
instance : SNe "worked" "rows" := ⟨by decide +kernel⟩
instance : SNe "worked" "starts" := ⟨by decide +kernel⟩
instance : SNe "worked" "at" := ⟨by decide +kernel⟩
instance : SNe "worked" "stack" := ⟨by decide +kernel⟩
instance : SNe "worked" "frames" := ⟨by decide +kernel⟩
instance : SNe "worked" "called" := ⟨by decide +kernel⟩
instance : SNe "worked" "enter" := ⟨by decide +kernel⟩
instance : SNe "worked" "call" := ⟨by decide +kernel⟩
instance : SNe "worked" "work" := ⟨by decide +kernel⟩
instance : SNe "worked" "append" := ⟨by decide +kernel⟩
instance : SNe "worked" "pop" := ⟨by decide +kernel⟩
instance : SNe "called" "functions" := ⟨by decide +kernel⟩
instance : SNe "called" "fuel" := ⟨by decide +kernel⟩
instance : SNe "called" "made" := ⟨by decide +kernel⟩
instance : SNe "called" "going" := ⟨by decide +kernel⟩
instance : SNe "called" "rows" := ⟨by decide +kernel⟩
instance : SNe "called" "starts" := ⟨by decide +kernel⟩
instance : SNe "called" "at" := ⟨by decide +kernel⟩
instance : SNe "called" "stack" := ⟨by decide +kernel⟩
instance : SNe "called" "frames" := ⟨by decide +kernel⟩
instance : SNe "called" "worked" := ⟨by decide +kernel⟩
instance : SNe "called" "enter" := ⟨by decide +kernel⟩
instance : SNe "called" "call" := ⟨by decide +kernel⟩
instance : SNe "called" "work" := ⟨by decide +kernel⟩
instance : SNe "called" "append" := ⟨by decide +kernel⟩
instance : SNe "called" "pop" := ⟨by decide +kernel⟩
instance : SNe "enter" "functions" := ⟨by decide +kernel⟩
instance : SNe "enter" "fuel" := ⟨by decide +kernel⟩
instance : SNe "enter" "made" := ⟨by decide +kernel⟩
instance : SNe "enter" "going" := ⟨by decide +kernel⟩
instance : SNe "enter" "rows" := ⟨by decide +kernel⟩
instance : SNe "enter" "starts" := ⟨by decide +kernel⟩
instance : SNe "enter" "at" := ⟨by decide +kernel⟩
instance : SNe "enter" "stack" := ⟨by decide +kernel⟩
instance : SNe "enter" "frames" := ⟨by decide +kernel⟩
instance : SNe "enter" "worked" := ⟨by decide +kernel⟩
instance : SNe "enter" "called" := ⟨by decide +kernel⟩
instance : SNe "enter" "call" := ⟨by decide +kernel⟩
instance : SNe "enter" "work" := ⟨by decide +kernel⟩
instance : SNe "enter" "append" := ⟨by decide +kernel⟩
instance : SNe "enter" "pop" := ⟨by decide +kernel⟩
instance : SNe "call" "functions" := ⟨by decide +kernel⟩
instance : SNe "call" "fuel" := ⟨by decide +kernel⟩
instance : SNe "call" "made" := ⟨by decide +kernel⟩
instance : SNe "call" "going" := ⟨by decide +kernel⟩
instance : SNe "call" "rows" := ⟨by decide +kernel⟩
instance : SNe "call" "starts" := ⟨by decide +kernel⟩
instance : SNe "call" "at" := ⟨by decide +kernel⟩
instance : SNe "call" "stack" := ⟨by decide +kernel⟩
instance : SNe "call" "frames" := ⟨by decide +kernel⟩
instance : SNe "call" "worked" := ⟨by decide +kernel⟩
instance : SNe "call" "called" := ⟨by decide +kernel⟩
instance : SNe "call" "enter" := ⟨by decide +kernel⟩
instance : SNe "call" "work" := ⟨by decide +kernel⟩
instance : SNe "call" "append" := ⟨by decide +kernel⟩
instance : SNe "call" "pop" := ⟨by decide +kernel⟩
instance : SNe "work" "functions" := ⟨by decide +kernel⟩
instance : SNe "work" "fuel" := ⟨by decide +kernel⟩
instance : SNe "work" "made" := ⟨by decide +kernel⟩
instance : SNe "work" "going" := ⟨by decide +kernel⟩
instance : SNe "work" "rows" := ⟨by decide +kernel⟩
instance : SNe "work" "starts" := ⟨by decide +kernel⟩
instance : SNe "work" "at" := ⟨by decide +kernel⟩
instance : SNe "work" "stack" := ⟨by decide +kernel⟩
instance : SNe "work" "frames" := ⟨by decide +kernel⟩
instance : SNe "work" "worked" := ⟨by decide +kernel⟩
instance : SNe "work" "called" := ⟨by decide +kernel⟩
instance : SNe "work" "enter" := ⟨by decide +kernel⟩
instance : SNe "work" "call" := ⟨by decide +kernel⟩
instance : SNe "work" "append" := ⟨by decide +kernel⟩
instance : SNe "work" "pop" := ⟨by decide +kernel⟩
instance : SNe "append" "functions" := ⟨by decide +kernel⟩
instance : SNe "append" "fuel" := ⟨by decide +kernel⟩
instance : SNe "append" "made" := ⟨by decide +kernel⟩
instance : SNe "append" "going" := ⟨by decide +kernel⟩
instance : SNe "append" "rows" := ⟨by decide +kernel⟩
instance : SNe "append" "starts" := ⟨by decide +kernel⟩
instance : SNe "append" "at" := ⟨by decide +kernel⟩
instance : SNe "append" "stack" := ⟨by decide +kernel⟩
instance : SNe "append" "frames" := ⟨by decide +kernel⟩
instance : SNe "append" "worked" := ⟨by decide +kernel⟩
instance : SNe "append" "called" := ⟨by decide +kernel⟩
instance : SNe "append" "enter" := ⟨by decide +kernel⟩
instance : SNe "append" "call" := ⟨by decide +kernel⟩
instance : SNe "append" "work" := ⟨by decide +kernel⟩
instance : SNe "append" "pop" := ⟨by decide +kernel⟩
instance : SNe "pop" "functions" := ⟨by decide +kernel⟩
instance : SNe "pop" "fuel" := ⟨by decide +kernel⟩
instance : SNe "pop" "made" := ⟨by decide +kernel⟩
instance : SNe "pop" "going" := ⟨by decide +kernel⟩
instance : SNe "pop" "rows" := ⟨by decide +kernel⟩
instance : SNe "pop" "starts" := ⟨by decide +kernel⟩
instance : SNe "pop" "at" := ⟨by decide +kernel⟩
instance : SNe "pop" "stack" := ⟨by decide +kernel⟩
instance : SNe "pop" "frames" := ⟨by decide +kernel⟩
instance : SNe "pop" "worked" := ⟨by decide +kernel⟩
instance : SNe "pop" "called" := ⟨by decide +kernel⟩
instance : SNe "pop" "enter" := ⟨by decide +kernel⟩
instance : SNe "pop" "call" := ⟨by decide +kernel⟩
instance : SNe "pop" "work" := ⟨by decide +kernel⟩
instance : SNe "pop" "append" := ⟨by decide +kernel⟩
instance {M : Mem} {i : Nat} {e e' : Addr × MO} : SetC (M.set i e) i e' (M.set i e') := ⟨List.set_set ..⟩
/-- a method by its name alone -/
class MethN (X : Cx) (W : WX) (m : Str) (C : outParam Addr) (Pre : outParam PreG) : Prop where
  d : ∃ d ps CX, MDef X.prog X.w X.K X.mg X.base CX d C m ps (spG X.K Pre) ∧ Rm d X.A ∧ Lets CX X W
  c : Cls X.K C
/-- a making by the class's name -/
class MakeN (X : Cx) (W : WX) (x : Str) (C : outParam Addr) (Pre : outParam PreG) : Prop where
  d : ∃ d ps CX, KDef X.prog X.w X.K X.mg X.base CX d x C ps (spG X.K Pre) ∧ Rm (d + 1) X.A ∧ Lets CX X W
/-- a def over things that may change, by its name -/
class CallG (X : Cx) (W : WX) (x : Str) (Pre : outParam PreG) : Prop where
  d : ∃ d ps CX, Def X.prog X.w X.K X.mg X.base CX d x ps (spG X.K Pre) ∧ Rm d X.A ∧ Lets CX X W
def InsM (C : Addr) (m : Str) (mo : MO) (k : Prop) : Prop := ∃ dx fs, mo = .ins C dx fs ∧ fs.lookup m = none ∧ k
instance {C dx : Addr} {m : Str} {fs : List (Str × DV)} {k : Prop} [l : LkF fs m none] : Step (InsM C m (.ins C dx fs) k) k := ⟨fun h => ⟨dx, fs, rfl, l.h, h⟩⟩
section
variable {X : Cx} {W : WX} {e a b c o : Expr} {es : List Expr} {ds : Slots} {M : Mem} {R : DV → Mem → Prop} {Xp : Value → Mem → Prop} {pos p apos : Pos} {V L G B : List Str} {m x : Str} {C : Addr} {Pre : PreG}
theorem r_methS [mn : MethN X W m C Pre] [s : NS e] [ss : NSs es] (h : HE X W o ds M (fun x M1 => ObjP M1 x fun p i mo => InsM C m mo (HA X W (e :: es) ds M1 (fun dvs M2 => Pre M2 (.m p :: dvs) R Xp) Xp)) Xp)
    (ht : ∃ pl : Sem Bool, eval (.Call (.Attribute o m apos) (e :: es) [] pos) X.env = (do
      let ov ← eval o X.env
      standAt apos.atName
      let (f, first) ← holding [ov] (getMethod ov m pl)
      callWith pos f first (backTo pos (starEach (e :: es) X.env)) (backToKw pos (keywordEach [] X.env))) := by exact ⟨_, by with_unfolding_all rfl⟩) : HE X W (.Call (.Attribute o m apos) (e :: es) [] pos) ds M R Xp := by
  obtain ⟨d, ps, CX, D, hr, hx⟩ := mn.d
  exact he_meth D mn.c hr hx (he_imp h fun _ _ ⟨p, i, mo, e1, e2, dx, fs, e3, e4, k⟩ => ⟨p, i, mo, e1, e2, dx, fs, e3, e4, k⟩) (s.h es X.env) (ss.back pos X.env) ht
theorem r_methS0 [mn : MethN X W m C Pre] (h : HE X W o ds M (fun x M1 => ObjP M1 x fun p i mo => InsM C m mo (Pre M1 [.m p] R Xp)) Xp)
    (ht : ∃ pl : Sem Bool, eval (.Call (.Attribute o m apos) [] [] pos) X.env = (do
      let ov ← eval o X.env
      standAt apos.atName
      let (f, first) ← holding [ov] (getMethod ov m pl)
      callWith pos f first (backTo pos (starEach [] X.env)) (backToKw pos (keywordEach [] X.env))) := by exact ⟨_, by with_unfolding_all rfl⟩) : HE X W (.Call (.Attribute o m apos) [] [] pos) ds M R Xp := by
  obtain ⟨d, ps, CX, D, hr, hx⟩ := mn.d
  exact he_meth0 D mn.c hr hx (he_imp h fun _ _ ⟨p, i, mo, e1, e2, dx, fs, e3, e4, k⟩ => ⟨p, i, mo, e1, e2, dx, fs, e3, e4, k⟩) ht
instance [mn : MakeN X W x C Pre] [k : Kc X V L G B] [mm : MmC G x] [s : NS e] [ss : NSs es] : Step (HE X W (.Call (.Name x p) (e :: es) [] pos) ds M R Xp)
    (HA X W (e :: es) ds M (fun dvs M1 => ∀ q dx, Pre ((q, .ins C dx []) :: M1) (.m q :: dvs) (fun dv M2 => dv = .d .non ∧ R (.m q) M2) Xp) Xp) :=
  ⟨fun h => by
    obtain ⟨d, ps, CX, D, hr, hx⟩ := mn.d
    exact he_make D k.k mm.h hr hx h (s.h es X.env) (ss.back pos X.env)⟩
instance [mn : CallG X W x Pre] [k : Kc X V L G B] [mm : MmC G x] [s : NS e] [ss : NSs es] : Step (HE X W (.Call (.Name x p) (e :: es) [] pos) ds M R Xp)
    (HA X W (e :: es) ds M (fun dvs M1 => Pre M1 dvs R Xp) Xp) :=
  ⟨fun h => by
    obtain ⟨d, ps, CX, D, hr, hx⟩ := mn.d
    exact he_callG D k.k mm.h hr hx h (s.h es X.env) (ss.back pos X.env)⟩
def DcP (M : Mem) (x : DV) (k : List (Ky × DV) → Prop) : Prop := ∃ kvs, DOf M x kvs ∧ k kvs
instance {M : Mem} {kvs : List (Ky × Dat)} {k : List (Ky × DV) → Prop} : Step (DcP M (.d (.dct kvs)) k) (k (kvs.map fun kv => (kv.1, .d kv.2))) := ⟨fun h => ⟨_, .dat kvs, h⟩⟩
instance {M : Mem} {p : Addr} {i : Nat} {kvs : List (Ky × DV)} {k : List (Ky × DV) → Prop} [at_ : AtM M p i (.dct kvs)] : Step (DcP M (.m p) k) (k kvs) := ⟨fun h => ⟨_, .mu at_.h, h⟩⟩
instance [kc : Kc X V L G B] [mm : MmC B "dict"] [s : NS e] : Step (HE X W (.Call (.Name "dict" p) [e] [] pos) ds M R Xp) (HA X W [e] ds M (fun as M1 => One as fun x => DcP M1 x fun kvs => ∀ q, R (.m q) ((q, .dct kvs) :: M1)) Xp) :=
  ⟨fun h => he_Ty call_dcopy cd_dcopy kc.k mm.h (by decide +kernel) (fun n S F0 H0 F H σ I Q q x => h n S F0 H0 F H σ I Q (fun vs F' H' M' dvs s' I' o' ⟨y, e, kvs, d, k⟩ => q vs F' H' M' dvs s' I' o' ⟨y, kvs, e, d, k⟩) x) (s.h [] X.env)⟩
end
end CS

/-! CsSet: len(set(t)), t a tuple of texts. -/
namespace CS
open PySem PySem.Spec PyProof.Rows L2
/-- how many unlike ones among the first i -/
def dcT (xs : List Str) : Nat → Nat
  | 0 => 0
  | i + 1 => if xs.getD i Str.empty ∈ xs.take i then dcT xs i else dcT xs i + 1
theorem dcT_le (xs : List Str) : ∀ i, dcT xs i ≤ i
  | 0 => Nat.le_refl _
  | i + 1 => by
    have ih := dcT_le xs i
    unfold dcT
    split <;> omega
theorem dcT_nodup (xs : List Str) : ∀ i, i ≤ xs.length → (dcT xs i = i ↔ (xs.take i).Nodup)
  | 0, _ => by simp [dcT]
  | i + 1, hi => by
    have ih := dcT_nodup xs i (by omega)
    have le := dcT_le xs i
    have e : xs.take (i + 1) = xs.take i ++ [xs.getD i Str.empty] := by
      rw [List.take_add_one, List.getD_eq_getElem?_getD, List.getElem?_eq_getElem (by omega)]
      rfl
    have nd : (xs.take (i + 1)).Nodup ↔ (xs.take i).Nodup ∧ xs.getD i Str.empty ∉ xs.take i := by
      rw [e, List.nodup_append]
      constructor
      · rintro ⟨a, _, c⟩
        exact ⟨a, fun m => c _ m _ (by simp) rfl⟩
      · rintro ⟨a, c⟩
        refine ⟨a, by simp, fun x hx y hy => ?_⟩
        have hy : y = _ := List.mem_singleton.mp hy
        subst hy
        exact fun z => c (z ▸ hx)
    rw [nd]
    unfold dcT
    split
    · rename_i m
      exact ⟨fun z => absurd z (by omega), fun z => absurd m z.2⟩
    · rename_i m
      rw [← ih]
      exact ⟨fun z => ⟨by omega, m⟩, fun z => by omega⟩
section
variable {prog : Program} {w : World} {A : Around} {R : Result → Shared → Prop} {It : Addr} {fp wr : List Addr} {G : Array GenState → Array GenState → Prop} {n : Nat} {P : Nat → Value → Prop} {St' : Nat → Shared → Prop}
/-- the texts seen so far stand in the set at D -/
def Seen (prog : Program) (w : World) (h : Heap) (D : Addr) (xs : List Str) (i : Nat) : Prop := h.SetOf (PySem.strKind prog w) D (fun q => decide (q ∈ xs.take i)) (dcT xs i)
theorem Seen.moved {h h' : Heap} {D : Addr} {xs : List Str} {i : Nat} (z : Seen prog w h D xs i) (k : ∀ o, h.get? D = some o → h'.get? D = some o) : Seen prog w h' D xs i := by
  obtain ⟨o, a, b, c, ho, r⟩ := z
  exact ⟨o, a, b, c, k o ho, r⟩
theorem seen_loop (W : WalksS prog w A.in1 It fp wr G n P St') (D : Addr) (far : D ∉ fp) (xs : List Str) (hn : n = xs.length) (small : xs.length + 1 < scanBound) (hv : ∀ i v, P i v → ∃ t, v = .str (xs.getD i Str.empty) t) (m : Nat) :
    ∀ (i : Nat) (s : Shared), n - i = m → i ≤ n → St' i s → Seen prog w s.heap D xs i → (∀ s', Moved (D :: wr) G s s' → Seen prog w s'.heap D xs n → R (.ok (.ret .none)) s') → codeAny (model prog w) A (.builtin "set.update.loop" ⟨[.ref D, .ref It], []⟩) R s := by
  have nw : D ∉ wr := fun z => far (W.sub _ z)
  have up : ∀ b ∈ wr, b ∈ D :: wr := fun b => List.mem_cons_of_mem _
  induction m with
  | zero =>
    intro i s e1 e2 st sn fin
    obtain rfl : i = n := by omega
    refine codeAny_builtin PyProof.Rows.F.entry_set_update_loop ?_
    rw [Around.under_plainId PyProof.Rows.F.plain_set_update_loop _]
    show wpAny _ _ (_ >>= _) _ _ _
    refine wpAny_bind (W.done s _ _ st fun s' mv => ?_)
    show wpAny _ _ (ret _) _ _ _
    exact wpAny_pure (fin s' (mv.mono up) (sn.moved fun o => mv.heap D o nw))
  | succ m ih =>
    intro i s e1 e2 st sn fin
    have lt : i < n := by omega
    refine codeAny_builtin PyProof.Rows.F.entry_set_update_loop ?_
    rw [Around.under_plainId PyProof.Rows.F.plain_set_update_loop _]
    show wpAny _ _ (_ >>= _) _ _ _
    refine wpAny_bind (W.item i s _ _ lt st fun v s' pv st2 mv => ?_)
    obtain ⟨t, rfl⟩ := hv i v pv
    have sn2 := sn.moved (h' := s'.heap) fun o => mv.heap D o nw
    have le := dcT_le xs i
    show wpAny _ _ (holding [_] (setAdd D _) >>= _) _ _ _
    refine wpAny_bind (wpAny_holding ?_)
    unfold setAdd
    refine wpAny_holding (wpAny_bind ((PySem.strKind prog w).pyHash (k := xs.getD i Str.empty) (strKind_is _ _ _ _) ?_))
    refine wpAny_setAddHashed_of (knd := PySem.strKind prog w) (s := { s' with toks := s'.toks + 1 }) (strKind_is _ _ _ _) rfl sn2 (by omega) fun h2 only sn3 => ?_
    have sn4 : Seen prog w h2 D xs (i + 1) := by
      refine SetOf_congr sn3 (fun q => ?_) ?_
      · have e : xs.take (i + 1) = xs.take i ++ [xs.getD i Str.empty] := by
          rw [List.take_add_one, List.getD_eq_getElem?_getD, List.getElem?_eq_getElem (by omega)]
          rfl
        rw [e, ← Bool.decide_or]
        refine decide_eq_decide.mpr ?_
        rw [List.mem_append, List.mem_singleton]
      · show _ = dcT xs (i + 1)
        rw [dcT]
        simp only [decide_eq_true_eq]
    have stay : ∀ b ∈ fp, b ≠ D := fun b hb z => far (z ▸ hb)
    refine wpAny_pure ⟨plainId_quiet PyProof.Rows.F.plain_set_update_loop _, ih (i + 1) _ (by omega) lt (W.frame _ s' _ _ st2 (Nat.le_succ _) fun b hb o e => (only.2 b (stay b hb)).trans e) sn4 fun s3 mv3 sn5 => ?_⟩
    exact fin s3 (Moved.trans W.gtrans ((mv.mono up).then_heap (Nat.le_succ _) fun b o hb e => (only.2 b fun z => hb (z ▸ List.mem_cons_self)).trans e) mv3) sn5
end
section
variable {prog : Program} {w : World} {A : Around} {E : Value → Shared → Prop} {s : Shared}
abbrev emptySet (led : Bool) : Obj := { cls := .type "set", dict := none, data := .set #[] 0 (.fresh 0 0 led) }
set_option maxHeartbeats 3200000 in
theorem set_of_tuple {l : Addr} {items : Array Value} {xs : List Str} {Q : Value → Shared → Prop} (calm : A.handled = none) (ht : s.heap.IsTuple l items) (hx : PyProof.Rows.StrsAre items.toList xs) (small : xs.length + 1 < scanBound)
    (h : ∀ (h' : Heap) (tk : Nat), Seen prog w h' s.heap.objs.size xs xs.length → (∀ b o, s.heap.get? b = some o → h'.get? b = some o) → Q (.ref s.heap.objs.size) { s with heap := h', toks := tk }) : wpAny (model prog w) A (call (.type "set") [.ref l]) Q E s := by
  have isz : items.size = xs.length := by rw [← StrsAre.len_eq hx, Array.length_toList]
  obtain ⟨_, _, mro⟩ := PySem.F.called_set.mro
  have a1 := PySem.F.called_set.made
  have a2 := PySem.F.called_set.sub
  refine wpAny_call (codeAny_of_tree ?_)
  show wpAny _ _ (callAny (.type "set") _) _ _ _
  refine wpAny_pure ⟨Code.quiet_builtin _ (by decide +kernel), codeAny_builtin PySem.F.entry_type_call ?_⟩
  rw [Around.under_plain (weight_type_call_type "set" [.ref l] []) rfl]
  have a3 := PySem.F.called_set.notType
  have a4 := PySem.F.called_set.canCreate
  have a5 := PySem.F.typeCall_set_1 (.ref l)
  repeat (any_goals (first | assumption | wp_step))
  refine codeAny_mono (code_set_new_1 (.ref l) (E := E) (Q₁ := fun z s₁ => ∃ led, z = .ref s.heap.objs.size ∧ s₁ = { s with heap := s.heap.push (emptySet led) }) fun led => ⟨led, rfl, rfl⟩) fun r s₁ hr => ?_
  rcases r with e | fl
  · exact hr
  rcases fl with _ | _ | _ | z
  rotate_right
  · obtain ⟨led, rfl, rfl⟩ := hr
    have new : (s.heap.push (emptySet led)).get? s.heap.objs.size = some (emptySet led) := Heap.get?_push_size _ rfl
    have ty : Shared.TypeIs { s with heap := s.heap.push (emptySet led) } (.ref s.heap.objs.size) "set" := ⟨_, new, rfl⟩
    have a6 := PySem.F.called_set.init.lookup
    have a7 := PySem.F.called_set.init.bind (.ref s.heap.objs.size)
    repeat (any_goals (first | assumption | wp_step))
    refine codeAny_mono (codeAny_call_builtin (R := wants (fun r s₂ => r = .none ∧ ∃ h' tk, s₂ = { s with heap := h', toks := tk } ∧ Seen prog w h' s.heap.objs.size xs xs.length ∧ ∀ b o, s.heap.get? b = some o → h'.get? b = some o) E)
      PySem.F.called_set.init.plain PySem.F.entry_set_init (check_set_init_1 ty ?_)) fun r₂ s₂ hr₂ => ?_
    · obtain ⟨⟨oc, od, oda, osl⟩, ho, hc, nl, hd⟩ := ht
      simp only at hc hd
      subst hc; subst hd
      have b1 := PySem.F.sub_tuple_set
      have b2 := PySem.F.sub_tuple_frozenset
      have b3 : (Value.type "tuple" == Value.type "dict") = false := by decide
      have ho2 : (s.heap.push (emptySet led)).get? l = some { cls := .type "tuple", dict := od, data := .seq items nl, slots := osl } := Heap.get?_push_of_some _ ho
      have ht2 : (s.heap.push (emptySet led)).IsTuple l items := ⟨_, ho2, rfl, nl, rfl⟩
      unfold Builtin.«set.__init__» noKeywords Builtin.Frozenset.updateFrom
      generalize hPI : pyIter = PI
      wp_walk
      subst hPI
      refine wpAny_pyIter_tuple ht2 (wpAny_bind (wpAny_runValue ?_))
      have lt : l < s.heap.objs.size := Heap.lt_size ho
      have hz : (s.heap.push (emptySet led)).objs.size = s.heap.objs.size + 1 := Heap.size_push ..
      have ne : l ≠ (s.heap.push (emptySet led)).objs.size := fun z => by rw [hz] at z; exact absurd lt (by rw [z]; exact Nat.not_succ_lt_self)
      have far : s.heap.objs.size ∉ [(s.heap.push (emptySet led)).objs.size, l] := by
        simp only [List.mem_cons, List.not_mem_nil, or_false, not_or]
        exact ⟨fun z => by rw [hz] at z; exact absurd z (Nat.ne_of_lt (Nat.lt_succ_self _)), Nat.ne_of_gt lt⟩
      have calm3 : A.in1.in1.in1.handled = none := by simp [calm]
      refine seen_loop ((Walks.tuple calm3 _ l ne items).toS) s.heap.objs.size far xs isz small (fun i v hv => SS.strs_at hx i v (by rw [Array.getElem?_toList]; exact hv)) items.size 0 _ (Nat.sub_zero _) (Nat.zero_le _) ⟨⟨_, Heap.get?_push_size _ rfl, rfl, rfl⟩, ht2.push _⟩ ?_ ?_
      · refine SetOf_congr ((PyProof.Rows.setObjOf_fresh (knd := PySem.strKind prog w) led).setOf (Heap.get?_push_of_some _ new) (by unfold scanBound; omega)) (fun q => ?_) rfl
        simp
      · rintro ⟨h3, g3, d3, t3, o3⟩ mv sn
        obtain rfl : g3 = s.gens := mv.gens
        obtain rfl : d3 = s.drawn := mv.drawn
        obtain rfl : o3 = s.os := mv.os
        show wpAny _ _ _ _ _ _
        refine wpAny_pure ?_
        show wpAny _ _ (ret _) _ _ _
        refine wpAny_pure ⟨rfl, h3, t3, rfl, by rw [← isz]; exact sn, fun b o e => ?_⟩
        have lb := Heap.lt_size e
        refine mv.heap b o ?_ (Heap.get?_push_of_some _ (Heap.get?_push_of_some _ e))
        simp only [List.mem_cons, List.not_mem_nil, or_false, not_or]
        exact ⟨Nat.ne_of_lt lb, fun z => by rw [z, hz] at lb; exact Nat.not_succ_lt_self lb⟩
    · rcases r₂ with e | fl
      · exact hr₂
      rcases fl with _ | _ | _ | z
      rotate_right
      · obtain ⟨rfl, h3, t3, rfl, sn, kp⟩ := hr₂
        repeat (any_goals (first | assumption | wp_step))
        exact h _ _ sn kp
      all_goals exact hr₂.elim
  all_goals exact hr.elim
end
end CS

/-! CsLenSet: len(set(t)) as a rule. -/
namespace CS
open PySem PySem.Spec PyProof.Rows L2
def tLenT (K : PySem.W.Frag) (ta : TE) : TE := fun σ H Q => ta σ H fun x H1 => ∃ l, ∃ xs : List Str, x = .ref l ∧ SqT K H1 l (xs.map V.str) ∧ xs.length + 1 < scanBound ∧ Q (.int (dcT xs xs.length)) H1
section
variable {X : Cx} {W : WX} {a : Expr} {ta : TE} {p p2 q pos : Pos} {ds : Slots} {M : Mem} {R : DV → Mem → Prop} {Xp : Value → Mem → Prop} {V' L G B : List Str}
theorem pe_lenT (hc : X.calm = true) (h1 : Gl X "len") (m1 : X.mg "len" = none) (h2 : Gl X "set") (m2 : X.mg "set" = none) (ha : PE X a ta) (na : starEach [a] X.env = (false, eval a X.env) :: starEach [] X.env) :
    PE X (.Call (.Name "len" p) [.Call (.Name "set" p2) [a] [] q] [] pos) (tLenT X.K ta) := by
  refine ⟨fun pins s σ H Q I h => Call_ (ld_blt I h1 m1 boot_len (PyProof.Rows.callWith_builtin1 (PyProof.Rows.args_cons (Call_ (ld_blt I h2 m2 boot_set ?_)) rfl) rfl rfl))⟩
  refine PyProof.Rows.callWith_type1 (PyProof.Rows.args_cons (thn (ha.run pins s σ H _ I h) fun v s1 hh => PyProof.Rows.args_nil ?_) na) na rfl
  obtain ⟨x, H1, I1, r1, l, xs, rfl, hq, small, q1⟩ := hh
  cases r1
  obtain ⟨its, r, pl, hz⟩ := I1.tuple hq
  refine set_of_tuple (I1.ok.hd hc) pl (by simpa using strsAre_of r) small fun h' tk sn kp => PyProof.Rows.args_nil ?_
  obtain ⟨o, es, ep, t, ho, hex, hd, _, _, _, hf, hn⟩ := sn
  have I2 : Inv X pins σ H1 { s1 with heap := h', toks := tk } := I1.kept kp
  have le := dcT_le xs xs.length
  exact call_len_set ho hex hd hf (by rw [hn]; have sm := small; unfold scanBound at sm; omega) ⟨.int (dcT xs xs.length), H1, I2.tok _, ⟨_, by rw [hn]⟩, q1⟩
/-- len(set(t)) -/
theorem he_lenT (hc : X.calm = true) (k : Kx X V' L G B) (m1 : Mm B "len") (m2 : Mm B "set") (na : starEach [a] X.env = (false, eval a X.env) :: starEach [] X.env)
    (h : HE X W a ds M (fun x M1 => ∃ xs : List Str, x = .d (.tup (xs.map .str)) ∧ xs.length + 1 < scanBound ∧ R (.d (.int (dcT xs xs.length))) M1) Xp) : HE X W (.Call (.Name "len" p) [.Call (.Name "set" p2) [a] [] q] [] pos) ds M R Xp :=
  he_of (pe_lenT hc (k.bl _ m1.mem).1 (k.bl _ m1.mem).2.1 (k.bl _ m2.mem).1 (k.bl _ m2.mem).2.1 (pe_t X a) na) fun n S F0 H0 F H σ I Q q x => h n S F0 H0 F H σ I _ (fun v F1 H1 M1 dv s1 I1 o1 g1 => by
    obtain ⟨xs, rfl, small, g⟩ := g1
    have o1 : Rp X.K F1 v (.tup (xs.map .str)) := o1
    cases o1 with
    | tup hF r =>
      obtain rfl := r.str_inv
      exact ⟨_, xs, rfl, .of (I1.fh _ _ hF), small, q _ F1 H1 M1 _ s1 I1 (VOk.dat (.int _)) g⟩) x
def LsP (x : DV) (k : List Str → Prop) : Prop := ∃ xs : List Str, x = .d (.tup (xs.map .str)) ∧ k xs
instance {xs : List Str} {k : List Str → Prop} : Step (LsP (.d (.tup (xs.map .str))) k) (k xs) := ⟨fun h => ⟨xs, rfl, h⟩⟩
instance (priority := high) [c : Cc X] [k : Kc X V' L G B] [m1 : MmC B "len"] [m2 : MmC B "set"] [na : NS a] : Step (HE X W (.Call (.Name "len" p) [.Call (.Name "set" p2) [a] [] q] [] pos) ds M R Xp)
    (HE X W a ds M (fun x M1 => LsP x fun xs => xs.length + 1 < scanBound ∧ R (.d (.int (dcT xs xs.length))) M1) Xp) :=
  ⟨fun h => he_lenT c.h k.k m1.h m2.h (na.h [] X.env) (he_imp h fun _ _ ⟨xs, e, a, b⟩ => ⟨xs, e, a, b⟩)⟩
end
end CS

/-! CsTree: the little language in plain Lean: trees, what is wrong with them. -/
namespace CS
open PySem L2
inductive Deed where
  | sum | less | times | part | below
def Deed.str : Deed → Str
  | .sum => "sum"
  | .less => "less"
  | .times => "times"
  | .part => "part"
  | .below => "below"
inductive Tree where
  | num (i : Int)
  | name (x : Str)
  | deed (w : Deed) (a b : Tree)
  | choose (a b c : Tree)
  | dlet (x : Str) (a b : Tree)
  | call (f : Str) (ts : List Tree)
mutual
def Tree.dat : Tree → Dat
  | .num i => .tup [.str "num", .int i]
  | .name x => .tup [.str "name", .str x]
  | .deed w a b => .tup [.str w.str, a.dat, b.dat]
  | .choose a b c => .tup [.str "choose", a.dat, b.dat, c.dat]
  | .dlet x a b => .tup [.str "let", .str x, a.dat, b.dat]
  | .call f ts => .tup [.str "call", .str f, .tup (Tree.dats ts)]
def Tree.dats : List Tree → List Dat
  | [] => []
  | t :: ts => t.dat :: Tree.dats ts
end
theorem Tree.dats_map : ∀ ts : List Tree, Tree.dats ts = ts.map Tree.dat
  | [] => rfl
  | t :: ts => by rw [Tree.dats, Tree.dats_map ts, List.map_cons]
/-- the trees right within -/
def Tree.parts : Tree → List Tree
  | .num _ => []
  | .name _ => []
  | .deed _ a b => [a, b]
  | .choose a b c => [a, b, c]
  | .dlet _ a b => [a, b]
  | .call _ ts => ts
/-- what may be wrong -/
inductive Ex where
  | twice | name | func | count | tall | nought | great | deep | dry
  deriving DecidableEq
def cntD (cs : List (Str × Nat)) : Dat := .dct (cs.map fun q => (.inr q.1, .int q.2))
def lookC : List (Str × Nat) → Str → Option Nat
  | [], _ => none
  | (y, n) :: r, x => if y = x then some n else lookC r x
theorem lookC_val (x : Str) : ∀ cs : List (Str × Nat), valD (cs.map fun q => ((.inr q.1 : Ky), Dat.int q.2)) (.inr x) = (lookC cs x).map fun n => .int n
  | [] => rfl
  | (y, n) :: r => by
    rw [List.map_cons]
    unfold valD lookC
    by_cases h : y = x
    · rw [if_pos h, if_pos (by rw [h])]
      rfl
    · rw [if_neg h, if_neg (fun e => h (Sum.inr.inj e))]
      exact lookC_val x r
mutual
/-- the first thing that is wrong with a tree at its level -/
def need (cs : List (Str × Nat)) : List Str → Nat → Tree → Option Ex
  | ns, l, .num _ => if 12 < l then some .tall else none
  | ns, l, .name x => if 12 < l then some .tall else if x ∈ ns then none else some .name
  | ns, l, .deed _ a b => if 12 < l then some .tall else (need cs ns (l + 1) a).or (need cs ns (l + 1) b)
  | ns, l, .choose a b c => if 12 < l then some .tall else ((need cs ns (l + 1) a).or (need cs ns (l + 1) b)).or (need cs ns (l + 1) c)
  | ns, l, .dlet x a b => if 12 < l then some .tall else (need cs ns (l + 1) a).or (need cs (ns ++ [x]) (l + 1) b)
  | ns, l, .call f ts => if 12 < l then some .tall else match lookC cs f with
    | none => some .func
    | some n => if ts.length = n then needL cs ns (l + 1) ts else some .count
def needL (cs : List (Str × Nat)) : List Str → Nat → List Tree → Option Ex
  | ns, l, [] => none
  | ns, l, t :: ts => (need cs ns l t).or (needL cs ns l ts)
end
instance {M : Mem} {i : Int} {k : DV → Prop} : Step (IxA M (.d (Tree.num i).dat) (.d (.int 0)) k) (k (.d (.str "num"))) := ⟨fun h => .inl ⟨_, _, rfl, .tup rfl, h⟩⟩
instance {M : Mem} {i : Int} {k : DV → Prop} : Step (IxA M (.d (Tree.num i).dat) (.d (.int 1)) k) (k (.d (.int i))) := ⟨fun h => .inl ⟨_, _, rfl, .tup rfl, h⟩⟩
instance {M : Mem} {x : Str} {k : DV → Prop} : Step (IxA M (.d (Tree.name x).dat) (.d (.int 0)) k) (k (.d (.str "name"))) := ⟨fun h => .inl ⟨_, _, rfl, .tup rfl, h⟩⟩
instance {M : Mem} {x : Str} {k : DV → Prop} : Step (IxA M (.d (Tree.name x).dat) (.d (.int 1)) k) (k (.d (.str x))) := ⟨fun h => .inl ⟨_, _, rfl, .tup rfl, h⟩⟩
instance {M : Mem} {w : Deed} {a b : Tree} {k : DV → Prop} : Step (IxA M (.d (Tree.deed w a b).dat) (.d (.int 0)) k) (k (.d (.str w.str))) := ⟨fun h => .inl ⟨_, _, rfl, .tup rfl, h⟩⟩
instance {M : Mem} {w : Deed} {a b : Tree} {k : DV → Prop} : Step (IxA M (.d (Tree.deed w a b).dat) (.d (.int 1)) k) (k (.d (a.dat))) := ⟨fun h => .inl ⟨_, _, rfl, .tup rfl, h⟩⟩
instance {M : Mem} {w : Deed} {a b : Tree} {k : DV → Prop} : Step (IxA M (.d (Tree.deed w a b).dat) (.d (.int 2)) k) (k (.d (b.dat))) := ⟨fun h => .inl ⟨_, _, rfl, .tup rfl, h⟩⟩
instance {M : Mem} {a b c : Tree} {k : DV → Prop} : Step (IxA M (.d (Tree.choose a b c).dat) (.d (.int 0)) k) (k (.d (.str "choose"))) := ⟨fun h => .inl ⟨_, _, rfl, .tup rfl, h⟩⟩
instance {M : Mem} {a b c : Tree} {k : DV → Prop} : Step (IxA M (.d (Tree.choose a b c).dat) (.d (.int 1)) k) (k (.d (a.dat))) := ⟨fun h => .inl ⟨_, _, rfl, .tup rfl, h⟩⟩
instance {M : Mem} {a b c : Tree} {k : DV → Prop} : Step (IxA M (.d (Tree.choose a b c).dat) (.d (.int 2)) k) (k (.d (b.dat))) := ⟨fun h => .inl ⟨_, _, rfl, .tup rfl, h⟩⟩
instance {M : Mem} {a b c : Tree} {k : DV → Prop} : Step (IxA M (.d (Tree.choose a b c).dat) (.d (.int 3)) k) (k (.d (c.dat))) := ⟨fun h => .inl ⟨_, _, rfl, .tup rfl, h⟩⟩
instance {M : Mem} {x : Str} {a b : Tree} {k : DV → Prop} : Step (IxA M (.d (Tree.dlet x a b).dat) (.d (.int 0)) k) (k (.d (.str "let"))) := ⟨fun h => .inl ⟨_, _, rfl, .tup rfl, h⟩⟩
instance {M : Mem} {x : Str} {a b : Tree} {k : DV → Prop} : Step (IxA M (.d (Tree.dlet x a b).dat) (.d (.int 1)) k) (k (.d (.str x))) := ⟨fun h => .inl ⟨_, _, rfl, .tup rfl, h⟩⟩
instance {M : Mem} {x : Str} {a b : Tree} {k : DV → Prop} : Step (IxA M (.d (Tree.dlet x a b).dat) (.d (.int 2)) k) (k (.d (a.dat))) := ⟨fun h => .inl ⟨_, _, rfl, .tup rfl, h⟩⟩
instance {M : Mem} {x : Str} {a b : Tree} {k : DV → Prop} : Step (IxA M (.d (Tree.dlet x a b).dat) (.d (.int 3)) k) (k (.d (b.dat))) := ⟨fun h => .inl ⟨_, _, rfl, .tup rfl, h⟩⟩
instance {M : Mem} {f : Str} {ts : List Tree} {k : DV → Prop} : Step (IxA M (.d (Tree.call f ts).dat) (.d (.int 0)) k) (k (.d (.str "call"))) := ⟨fun h => .inl ⟨_, _, rfl, .tup rfl, h⟩⟩
instance {M : Mem} {f : Str} {ts : List Tree} {k : DV → Prop} : Step (IxA M (.d (Tree.call f ts).dat) (.d (.int 1)) k) (k (.d (.str f))) := ⟨fun h => .inl ⟨_, _, rfl, .tup rfl, h⟩⟩
instance {M : Mem} {f : Str} {ts : List Tree} {k : DV → Prop} : Step (IxA M (.d (Tree.call f ts).dat) (.d (.int 2)) k) (k (.d (.tup (ts.map Tree.dat)))) := ⟨fun h => .inl ⟨_, _, rfl, .tup rfl, by rw [Tree.dats_map]; exact h⟩⟩
instance {w : Deed} : SNe w.str "num" := ⟨by cases w <;> decide +kernel⟩
instance {w : Deed} : SNe w.str "name" := ⟨by cases w <;> decide +kernel⟩
instance {w : Deed} : SNe w.str "let" := ⟨by cases w <;> decide +kernel⟩
instance {w : Deed} : SNe w.str "call" := ⟨by cases w <;> decide +kernel⟩
instance {w : Deed} : SNe w.str "choose" := ⟨by cases w <;> decide +kernel⟩
instance {M : Mem} {cs : List (Str × Nat)} {x : Str} {k : Bool → Prop} : Step (InA true M (.d (.str x)) (.d (cntD cs)) k) (k (!(lookC cs x).isSome)) :=
  ⟨fun h => .inl ⟨_, .inr x, .dat _, .str x, _, rfl, by rw [if_pos rfl, valD_mapS, lookC_val, Option.isSome_map]; exact h⟩⟩
instance {M : Mem} {cs : List (Str × Nat)} {x : Str} {k : Bool → Prop} : Step (InA false M (.d (.str x)) (.d (cntD cs)) k) (k (lookC cs x).isSome) :=
  ⟨fun h => .inl ⟨_, .inr x, .dat _, .str x, _, rfl, by rw [if_neg (by decide), valD_mapS, lookC_val, Option.isSome_map]; exact h⟩⟩
theorem ix_cnt {M : Mem} {cs : List (Str × Nat)} {x : Str} {n : Nat} {k : DV → Prop} (e : lookC cs x = some n) (h : k (.d (.int n))) : IxA M (.d (cntD cs)) (.d (.str x)) k := dvP (.str x) ⟨.int n, by rw [lookC_val, e]; rfl, h⟩
/-- a program: names, things taken, bodies -/
structure Fn where
  nm : Str
  ps : List Str
  body : Tree
def Fn.dat (f : Fn) : Dat := .tup [.str f.nm, .tup (f.ps.map .str), f.body.dat]
instance {M : Mem} {f : Fn} {k : DV → Prop} : Step (IxA M (.d f.dat) (.d (.int 0)) k) (k (.d (.str f.nm))) := ⟨fun h => .inl ⟨_, _, rfl, .tup rfl, h⟩⟩
instance {M : Mem} {f : Fn} {k : DV → Prop} : Step (IxA M (.d f.dat) (.d (.int 1)) k) (k (.d (.tup (f.ps.map .str)))) := ⟨fun h => .inl ⟨_, _, rfl, .tup rfl, h⟩⟩
instance {M : Mem} {f : Fn} {k : DV → Prop} : Step (IxA M (.d f.dat) (.d (.int 2)) k) (k (.d f.body.dat)) := ⟨fun h => .inl ⟨_, _, rfl, .tup rfl, h⟩⟩

instance {A B : Prop} : Step (if true = true then A else B) A := ⟨fun h => by rw [if_pos rfl]; exact h⟩
instance {A B : Prop} : Step (if false = true then A else B) B := ⟨fun h => by rw [if_neg (by decide)]; exact h⟩
instance {M : Mem} {ss : List Str} {s : Str} {p : Addr} {i : Nat} {k : Bool → Prop} [a : AtM M p i (.lst ((ss.map Dat.str).map DV.d))] : Step (InA false M (.d (.str s)) (.m p) k) (k (decide (s ∈ ss))) :=
  ⟨fun h => .inr ⟨s, ss, rfl, .inl (.mu a.h), _, rfl, by rw [if_neg (by decide)]; exact h⟩⟩
/-! ### counts, the check of a program -/
def cntM (cs : List (Str × Nat)) : List (Ky × DV) := (cs.map fun q => ((.inr q.1 : Ky), Dat.int q.2)).map fun kv => (kv.1, DV.d kv.2)
theorem cntM_some (cs : List (Str × Nat)) (x : Str) : (valD (cntM cs) (.inr x)).isSome = (lookC cs x).isSome := by rw [cntM, valD_mapS, lookC_val, Option.isSome_map]
theorem cntM_any (x : Str) : ∀ cs : List (Str × Nat), ((cntM cs).any fun kv => decide (kv.1 = (.inr x : Ky))) = (lookC cs x).isSome
  | [] => rfl
  | (y, n) :: r => by
    have ih := cntM_any x r
    unfold cntM at ih ⊢
    rw [List.map_cons, List.map_cons, List.any_cons, ih]
    rw [show lookC ((y, n) :: r) x = if y = x then some n else lookC r x from rfl]
    by_cases h : y = x
    · rw [if_pos h]; simp [h]
    · rw [if_neg h]; simp [h]
theorem cntM_put {cs : List (Str × Nat)} {x : Str} {n : Nat} (h : lookC cs x = none) : putKD (cntM cs) (.inr x) (.d (.int n)) = cntM (cs ++ [(x, n)]) := by
  unfold putKD
  rw [cntM_any, h, if_neg (by simp)]
  simp [cntM]
theorem cntM_len (cs : List (Str × Nat)) : (cntM cs).length = cs.length := by simp [cntM]
def cstep (cs : List (Str × Nat)) (f : Fn) : List (Str × Nat) := if (lookC cs f.nm).isSome = true then cs else cs ++ [(f.nm, f.ps.length)]
def countsOf (fs : List Fn) : List (Str × Nat) := fs.foldl cstep []
theorem countsOf_succ {fs : List Fn} {n : Nat} {f : Fn} (h : fs[n]? = some f) : countsOf (fs.take (n + 1)) = cstep (countsOf (fs.take n)) f := by
  unfold countsOf
  rw [List.take_add_one, h, Option.toList, List.foldl_append]
  rfl
theorem cstep_len (cs : List (Str × Nat)) (f : Fn) : (cstep cs f).length ≤ cs.length + 1 := by
  unfold cstep
  split
  · omega
  · rw [List.length_append, List.length_singleton]; omega
theorem countsOf_len (fs : List Fn) : ∀ n, (countsOf (fs.take n)).length ≤ n
  | 0 => by simp [countsOf]
  | n + 1 => by
    have ih := countsOf_len fs n
    cases h : fs[n]? with
    | none => rw [List.take_add_one, h, Option.toList, List.append_nil]; omega
    | some f =>
      rw [countsOf_succ h]
      have := cstep_len (countsOf (fs.take n)) f
      omega
def checkFn (counts : List (Str × Nat)) (ahead : List Str) (f : Fn) : Option Ex := if f.nm ∈ ahead ∨ ¬ f.ps.Nodup then some .twice else need counts f.ps 1 f.body
def checkL (counts : List (Str × Nat)) : List Str → List Fn → Option Ex
  | _, [] => none
  | ah, f :: r => (checkFn counts ah f).or (checkL counts (ah ++ [f.nm]) r)
theorem checkL_at {counts : List (Str × Nat)} {f : Fn} : ∀ {fs : List Fn} {ah : List Str} {n : Nat}, checkL counts ah (fs.take n) = none → fs[n]? = some f →
    (∀ x, checkFn counts (ah ++ (fs.take n).map Fn.nm) f = some x → checkL counts ah fs = some x) ∧ (checkFn counts (ah ++ (fs.take n).map Fn.nm) f = none → checkL counts ah (fs.take (n + 1)) = none)
  | [], _, n, _, e => by simp at e
  | u :: fs, ah, 0, _, e => by
    cases e
    rw [List.take_zero, List.map_nil, List.append_nil]
    refine ⟨fun x h => ?_, fun h => ?_⟩
    · rw [checkL, h]; rfl
    · rw [List.take_succ_cons, List.take_zero, checkL, h]; rfl
  | u :: fs, ah, n + 1, h, e => by
    rw [List.take_succ_cons, checkL] at h
    cases q : checkFn counts ah u with
    | some z => rw [q] at h; cases h
    | none =>
      rw [q] at h
      obtain ⟨a, b⟩ := checkL_at (f := f) (fs := fs) (ah := ah ++ [u.nm]) (n := n) h (by simpa using e)
      rw [List.append_assoc] at a b
      rw [List.take_succ_cons, List.map_cons]
      refine ⟨fun x h => ?_, fun h => ?_⟩
      · rw [checkL, q]; exact a x h
      · rw [List.take_succ_cons, checkL, q]; exact b h
end CS

/-! CsTell: what the trees tell, in plain Lean. -/
namespace CS
open PySem L2
def most : Int := 1000000000000
def lim (z : Int) : Except Ex Int := if most < z ∨ z < -most then .error .great else .ok z
def reckon : Deed → Int → Int → Except Ex Int
  | .below, a, b => .ok (if a < b then 1 else 0)
  | .part, a, b => if b = 0 then .error .nought else .ok (a.fdiv b)
  | .sum, a, b => lim (a + b)
  | .less, a, b => lim (a - b)
  | .times, a, b => lim (a * b)
/-- an outcome: a number or the first refusal, with the calls made by then -/
inductive Rs where
  | val (i : Int) (made : Nat)
  | exc (e : Ex) (made : Nat)
abbrev Env := List (Str × Int)
def lookI : Env → Str → Option Int
  | [], _ => none
  | (y, n) :: r, x => if y = x then some n else lookI r x
def envPut (env : Env) (x : Str) (v : Int) : Env := if (env.any fun q => decide (q.1 = x)) = true then env.map (fun q => if q.1 = x then (q.1, v) else q) else env ++ [(x, v)]
def envD (env : Env) : Dat := .dct (env.map fun q => (.inr q.1, .int q.2))
def Small (v : Int) : Prop := -most ≤ v ∧ v ≤ most
mutual
/-- the numbers of a tree are small -/
def numsOk : Tree → Prop
  | .num i => Small i
  | .name _ => True
  | .deed _ a b => numsOk a ∧ numsOk b
  | .choose a b c => numsOk a ∧ numsOk b ∧ numsOk c
  | .dlet _ a b => numsOk a ∧ numsOk b
  | .call _ ts => numsOkL ts
def numsOkL : List Tree → Prop
  | [] => True
  | t :: ts => numsOk t ∧ numsOkL ts
end
def bindE : List Str → List Int → Env → Env
  | x :: xs, v :: vs, env => bindE xs vs (envPut env x v)
  | _, _, env => env
mutual
def wk (h : Str → List Int → Nat → Rs) : Tree → Env → Nat → Rs
  | .num i, _, m => .val i m
  | .name x, env, m => .val ((lookI env x).getD 0) m
  | .deed w a b, env, m => match wk h a env m with
    | .exc e m1 => .exc e m1
    | .val u m1 => match wk h b env m1 with
      | .exc e m2 => .exc e m2
      | .val v m2 => match reckon w u v with
        | .ok z => .val z m2
        | .error e => .exc e m2
  | .choose a b c, env, m => match wk h a env m with
    | .exc e m1 => .exc e m1
    | .val v m1 => if v ≠ 0 then wk h b env m1 else wk h c env m1
  | .dlet x a b, env, m => match wk h a env m with
    | .exc e m1 => .exc e m1
    | .val v m1 => wk h b (envPut env x v) m1
  | .call f ts, env, m => wkL h f ts [] env m
def wkL (h : Str → List Int → Nat → Rs) (f : Str) : List Tree → List Int → Env → Nat → Rs
  | [], vs, _, m => h f vs m
  | t :: ts, vs, env, m => match wk h t env m with
    | .exc e m1 => .exc e m1
    | .val v m1 => wkL h f ts (vs ++ [v]) env m1
end
def lookF : List Fn → Str → Option Fn
  | [], _ => none
  | f :: r, x => if f.nm = x then some f else lookF r x
/-- a call where n more may be going on -/
def callF (fs : List Fn) (fuel : Int) : Nat → Str → List Int → Nat → Rs
  | 0, _, _, m => .exc .deep m
  | n + 1, f, vs, m => if (m : Int) = fuel then .exc .dry m else match lookF fs f with
    | none => .exc .dry m
    | some fn => wk (callF fs fuel n) fn.body (bindE fn.ps vs []) (m + 1)
/-! ### facts -/
theorem small_lim {z v : Int} (h : lim z = .ok v) : Small v := by
  unfold lim at h
  split at h
  · cases h
  · cases h
    unfold Small
    omega
theorem small_ediv {a b : Int} (ha : Small a) (hb : 0 < b) : Small (a / b) := by
  unfold Small most at *
  have r1 := Int.emod_nonneg a (show b ≠ 0 by omega)
  have r2 := Int.emod_lt_of_pos a hb
  have hk := Int.mul_ediv_add_emod a b
  constructor
  · rcases Int.lt_or_le (a / b) 0 with q | q
    · have e2 : b * (a / b + 1) ≤ 1 * (a / b + 1) := by
        apply Int.mul_le_mul_of_nonpos_right _ (by omega)
        omega
      rw [Int.mul_add, Int.mul_one] at e2
      omega
    · omega
  · rcases Int.lt_or_le 0 (a / b) with q | q
    · have e2 : 1 * (a / b) ≤ b * (a / b) := by
        apply Int.mul_le_mul_of_nonneg_right _ (by omega)
        omega
      omega
    · omega
theorem small_fdiv {a b : Int} (ha : Small a) (hb : b ≠ 0) : Small (a.fdiv b) := by
  rcases Int.lt_or_gt_of_ne hb with h | h
  · rw [← Int.neg_fdiv_neg, Int.fdiv_eq_ediv_of_nonneg _ (by omega)]
    exact small_ediv (by unfold Small most at *; omega) (by omega)
  · rw [Int.fdiv_eq_ediv_of_nonneg _ (by omega)]
    exact small_ediv ha h
theorem small_reckon {w : Deed} {a b v : Int} (ha : Small a) (h : reckon w a b = .ok v) : Small v := by
  cases w with
  | sum => exact small_lim h
  | less => exact small_lim h
  | times => exact small_lim h
  | part =>
    by_cases hb : b = 0
    · rw [reckon, if_pos hb] at h
      cases h
    · rw [reckon, if_neg hb] at h
      cases h
      exact small_fdiv ha hb
  | below =>
    rw [reckon] at h
    cases h
    unfold Small most
    split <;> omega
def EnvOk' (env : Env) : Prop := ∀ q ∈ env, Small q.2
theorem lookI_small {x : Str} {v : Int} : ∀ {env : Env}, EnvOk' env → lookI env x = some v → Small v
  | [], _, h => by cases h
  | (y, n) :: r, e, h => by
    unfold lookI at h
    split at h
    · cases h
      exact e _ List.mem_cons_self
    · exact lookI_small (fun q hq => e q (List.mem_cons_of_mem _ hq)) h
theorem envPut_small {x : Str} {v : Int} (hv : Small v) {env : Env} (e : EnvOk' env) : EnvOk' (envPut env x v) := by
  unfold envPut
  split
  · intro q hq
    obtain ⟨p, hp, rfl⟩ := List.mem_map.mp hq
    split
    · exact hv
    · exact e p hp
  · intro q hq
    rcases List.mem_append.mp hq with hq | hq
    · exact e q hq
    · have hq : q = _ := List.mem_singleton.mp hq
      subst hq
      exact hv
theorem env_any (x : Str) : ∀ env : Env, (env.any fun q => decide (q.1 = x)) = (lookI env x).isSome
  | [] => rfl
  | (y, n) :: r => by
    rw [List.any_cons, env_any x r, show lookI ((y, n) :: r) x = if y = x then some n else lookI r x from rfl]
    by_cases h : y = x
    · rw [if_pos h]; simp [h]
    · rw [if_neg h]; simp [h]
theorem look_map {x z : Str} {v : Int} : ∀ env : Env, lookI (env.map fun q => if q.1 = x then (q.1, v) else q) z = if x = z ∧ (lookI env x).isSome = true then some v else lookI env z
  | [] => by simp [lookI]
  | (y, n) :: r => by
    have ih := look_map (x := x) (z := z) (v := v) r
    rw [List.map_cons]
    by_cases h : y = x
    · subst h
      rw [if_pos rfl]
      show (if y = z then some v else lookI (r.map _) z) = if y = z ∧ (if y = y then some n else lookI r y).isSome = true then some v else (if y = z then some n else lookI r z)
      rw [if_pos (rfl : y = y), ih]
      by_cases e : y = z
      · simp [e]
      · simp [e]
    · rw [if_neg h]
      show (if y = z then some n else lookI (r.map _) z) = if x = z ∧ (if y = x then some n else lookI r x).isSome = true then some v else (if y = z then some n else lookI r z)
      rw [if_neg h, ih]
      by_cases e : y = z
      · have e2 : ¬ x = z := fun q => h (e.trans q.symm)
        simp [e, e2]
      · simp [e]
theorem look_snoc {x z : Str} {v : Int} : ∀ env : Env, lookI env x = none → lookI (env ++ [(x, v)]) z = if x = z then some v else lookI env z
  | [], _ => rfl
  | (y, n) :: r, h => by
    rw [show lookI ((y, n) :: r) x = if y = x then some n else lookI r x from rfl] at h
    by_cases e : y = x
    · rw [if_pos e] at h; cases h
    · rw [if_neg e] at h
      show (if y = z then some n else lookI (r ++ [(x, v)]) z) = if x = z then some v else (if y = z then some n else lookI r z)
      rw [look_snoc r h]
      by_cases e2 : y = z
      · rw [if_pos e2, if_neg (fun q => e (e2.trans q.symm)), if_pos e2]
      · rw [if_neg e2, if_neg e2]
theorem envPut_look {x z : Str} {v : Int} {env : Env} : lookI (envPut env x v) z = if x = z then some v else lookI env z := by
  unfold envPut
  rw [env_any]
  cases h : lookI env x with
  | some n =>
    rw [if_pos (show (some n).isSome = true from rfl), look_map, h]
    simp
  | none =>
    rw [if_neg (by simp), look_snoc env h]
theorem envPut_len {x : Str} {v : Int} (env : Env) : (envPut env x v).length ≤ env.length + 1 := by
  unfold envPut
  split
  · rw [List.length_map]; omega
  · rw [List.length_append, List.length_singleton]; omega
/-- the dict of an environment -/
def envM (env : Env) : List (Ky × DV) := (env.map fun q => ((.inr q.1 : Ky), Dat.int q.2)).map fun kv => (kv.1, DV.d kv.2)
theorem envM_val (x : Str) : ∀ env : Env, valD (env.map fun q => ((.inr q.1 : Ky), Dat.int q.2)) (.inr x) = (lookI env x).map fun n => .int n
  | [] => rfl
  | (y, n) :: r => by
    rw [List.map_cons]
    unfold valD lookI
    by_cases h : y = x
    · rw [if_pos h, if_pos (by rw [h])]
      rfl
    · rw [if_neg h, if_neg (fun e => h (Sum.inr.inj e))]
      exact envM_val x r
theorem ix_env {M : Mem} {env : Env} {x : Str} {n : Int} {k : DV → Prop} (e : lookI env x = some n) (h : k (.d (.int n))) : IxA M (.d (envD env)) (.d (.str x)) k := dvP (.str x) ⟨.int n, by rw [envM_val, e]; rfl, h⟩
theorem envM_any (x : Str) : ∀ env : Env, ((envM env).any fun kv => decide (kv.1 = (.inr x : Ky))) = (lookI env x).isSome
  | [] => rfl
  | (y, n) :: r => by
    have ih := envM_any x r
    unfold envM at ih ⊢
    rw [List.map_cons, List.map_cons, List.any_cons, ih]
    rw [show lookI ((y, n) :: r) x = if y = x then some n else lookI r x from rfl]
    by_cases h : y = x
    · rw [if_pos h]; simp [h]
    · rw [if_neg h]; simp [h]
theorem envM_put {env : Env} {x : Str} {v : Int} : putKD (envM env) (.inr x) (.d (.int v)) = envM (envPut env x v) := by
  unfold putKD envPut
  rw [envM_any, env_any]
  split
  · unfold envM
    rw [List.map_map, List.map_map, List.map_map, List.map_map]
    refine List.map_congr_left fun q _ => ?_
    show (if (Sum.inr q.1 : Ky) = .inr x then _ else _) = _
    by_cases h : q.1 = x
    · simp [h]
    · simp [h]
  · unfold envM
    simp
theorem envM_len (env : Env) : (envM env).length = env.length := by simp [envM]
theorem rt_eq' {d : Dat} {o : Oc} {M : Mem} (h : o = .val d) : Rt o (.d d) M := by rw [h]; rfl
/-! ### what is told is small -/
def HSmall (h : Str → List Int → Nat → Rs) : Prop := ∀ f vs m v m', (∀ z ∈ vs, Small z) → h f vs m = .val v m' → Small v
mutual
theorem wk_small {h : Str → List Int → Nat → Rs} (hs : HSmall h) : ∀ (t : Tree) (env : Env) (m : Nat) (v : Int) (m' : Nat), numsOk t → EnvOk' env → (∀ x, Small ((lookI env x).getD 0)) → wk h t env m = .val v m' → Small v
  | .num i, env, m, v, m', hn, he, hl, e => by
    rw [wk] at e
    cases e
    rw [numsOk] at hn
    exact hn
  | .name x, env, m, v, m', hn, he, hl, e => by
    rw [wk] at e
    cases e
    exact hl x
  | .deed w a b, env, m, v, m', hn, he, hl, e => by
    rw [numsOk] at hn
    rw [wk] at e
    cases qa : wk h a env m with
    | exc _ _ => rw [qa] at e; cases e
    | val u m1 =>
      rw [qa] at e
      cases qb : wk h b env m1 with
      | exc _ _ => simp only [qb] at e; cases e
      | val z m2 =>
        simp only [qb] at e
        cases qr : reckon w u z with
        | error _ => simp only [qr] at e; cases e
        | ok r =>
          simp only [qr] at e
          cases e
          exact small_reckon (wk_small hs a env m u m1 hn.1 he hl qa) qr
  | .choose a b c, env, m, v, m', hn, he, hl, e => by
    rw [numsOk] at hn
    rw [wk] at e
    cases qa : wk h a env m with
    | exc _ _ => rw [qa] at e; cases e
    | val u m1 =>
      simp only [qa] at e
      split at e
      · exact wk_small hs b env m1 v m' hn.2.1 he hl e
      · exact wk_small hs c env m1 v m' hn.2.2 he hl e
  | .dlet x a b, env, m, v, m', hn, he, hl, e => by
    rw [numsOk] at hn
    rw [wk] at e
    cases qa : wk h a env m with
    | exc _ _ => rw [qa] at e; cases e
    | val u m1 =>
      simp only [qa] at e
      have su := wk_small hs a env m u m1 hn.1 he hl qa
      refine wk_small hs b (envPut env x u) m1 v m' hn.2 (envPut_small su he) (fun z => ?_) e
      rw [envPut_look]
      split
      · exact su
      · exact hl z
  | .call f ts, env, m, v, m', hn, he, hl, e => by
    rw [numsOk] at hn
    rw [wk] at e
    exact wkL_small hs f ts [] env m v m' hn (by simp) he hl e
theorem wkL_small {h : Str → List Int → Nat → Rs} (hs : HSmall h) (f : Str) : ∀ (ts : List Tree) (vs : List Int) (env : Env) (m : Nat) (v : Int) (m' : Nat), numsOkL ts → (∀ z ∈ vs, Small z) → EnvOk' env → (∀ x, Small ((lookI env x).getD 0)) → wkL h f ts vs env m = .val v m' → Small v
  | [], vs, env, m, v, m', hn, hv, he, hl, e => by
    rw [wkL] at e
    exact hs f vs m v m' hv e
  | t :: ts, vs, env, m, v, m', hn, hv, he, hl, e => by
    rw [numsOkL] at hn
    rw [wkL] at e
    cases qa : wk h t env m with
    | exc _ _ => rw [qa] at e; cases e
    | val u m1 =>
      simp only [qa] at e
      have su := wk_small hs t env m u m1 hn.1 he hl qa
      refine wkL_small hs f ts (vs ++ [u]) env m1 v m' hn.2 (fun z hz => ?_) he hl e
      rcases List.mem_append.mp hz with hz | hz
      · exact hv z hz
      · rw [List.mem_singleton.mp hz]; exact su
end
theorem small_zero : Small 0 := by unfold Small most; omega
theorem envOk_look {env : Env} (e : EnvOk' env) (x : Str) : Small ((lookI env x).getD 0) := by
  cases q : lookI env x with
  | none => exact small_zero
  | some v => exact lookI_small e q
theorem bindE_small : ∀ {xs : List Str} {vs : List Int} {env : Env}, (∀ z ∈ vs, Small z) → EnvOk' env → EnvOk' (bindE xs vs env)
  | [], _, _, _, e => by simpa [bindE] using e
  | _ :: _, [], _, _, e => by simpa [bindE] using e
  | x :: xs, v :: vs, env, hv, e => by
    rw [bindE]
    exact bindE_small (fun z hz => hv z (List.mem_cons_of_mem _ hz)) (envPut_small (hv v List.mem_cons_self) e)
theorem lookF_mem {x : Str} {f : Fn} : ∀ {fs : List Fn}, lookF fs x = some f → f ∈ fs ∧ f.nm = x
  | [], h => by cases h
  | g :: r, h => by
    unfold lookF at h
    split at h
    · cases h
      exact ⟨List.mem_cons_self, by assumption⟩
    · obtain ⟨a, b⟩ := lookF_mem h
      exact ⟨List.mem_cons_of_mem _ a, b⟩
theorem callF_small {fs : List Fn} {fuel : Int} (hn : ∀ f ∈ fs, numsOk f.body) : ∀ n, HSmall (callF fs fuel n)
  | 0 => fun f vs m v m' hv e => by cases e
  | n + 1 => fun f vs m v m' hv e => by
    unfold callF at e
    split at e
    · cases e
    · cases q : lookF fs f with
      | none => simp only [q] at e; cases e
      | some fn =>
        simp only [q] at e
        have hb : EnvOk' (bindE fn.ps vs []) := bindE_small hv fun q hq => absurd hq (by simp)
        exact wk_small (callF_small hn n) fn.body _ _ v m' (hn fn (lookF_mem q).1) hb (envOk_look hb) e
/-- a dict of functions -/
def fnsD (fs : List Fn) : Dat := .dct (fs.map fun f => (.inr f.nm, f.dat))
theorem ix_fns {M : Mem} {fs : List Fn} {x : Str} {f : Fn} {k : DV → Prop} (e : lookF fs x = some f) (h : k (.d f.dat)) : IxA M (.d (fnsD fs)) (.d (.str x)) k := by
  refine dvP (.str x) ⟨f.dat, ?_, h⟩
  induction fs with
  | nil => cases e
  | cons g r ih =>
    unfold lookF at e
    rw [List.map_cons]
    unfold valD
    by_cases q : g.nm = x
    · rw [if_pos q] at e
      cases e
      rw [if_pos (by rw [q])]
    · rw [if_neg q] at e
      rw [if_neg (fun z => q (Sum.inr.inj z))]
      exact ih e
/-- what holds of a program that was checked -/
structure FsWf (fs : List Fn) : Prop where
  need : ∀ f ∈ fs, need (countsOf fs) f.ps 1 f.body = none
  nums : ∀ f ∈ fs, numsOk f.body
  len : ∀ f ∈ fs, f.ps.length ≤ 900
  look : ∀ x n, lookC (countsOf fs) x = some n → ∃ f, lookF fs x = some f ∧ f.ps.length = n
abbrev tellF (fs : List Fn) (fuel : Int) (made going : Nat) : List (Str × DV) := [("functions", .d (fnsD fs)), ("fuel", .d (.int fuel)), ("made", .d (.int made)), ("going", .d (.int going))]
def RsP (C : Addr) (cs : Ex → Addr) (fs : List Fn) (fuel : Int) (going : Nat) (M : Mem) (q dx : Addr) (i : Nat) (rt : DV → Mem → Prop) (ex : Value → Mem → Prop) : Rs → Prop
  | .val v m => rt (.d (.int v)) (M.set i (q, .ins C dx (tellF fs fuel m going)))
  | .exc e m => ∀ g', ex (.ref (cs e)) (M.set i (q, .ins C dx (tellF fs fuel m g')))
def PCall (C : Addr) (cs : Ex → Addr) (fs : List Fn) (fuel : Int) (n : Nat) : PreG := fun M as rt ex => ∃ q i dx made going nm vs, as = [.m q, .d (.str nm), .d (.lst (vs.map .int))] ∧ M[i]? = some (q, .ins C dx (tellF fs fuel made going)) ∧ going + n = 20 ∧ (∀ v ∈ vs, Small v) ∧
  (∃ f, lookF fs nm = some f ∧ f.ps.length = vs.length) ∧ RsP C cs fs fuel going M q dx i rt ex (callF fs fuel n nm vs made)
def PWork (C : Addr) (cs : Ex → Addr) (fs : List Fn) (fuel : Int) (n h : Nat) : PreG := fun M as rt ex => ∃ q i dx made going t env ns l, as = [.m q, .d (Tree.dat t), .d (envD env)] ∧ M[i]? = some (q, .ins C dx (tellF fs fuel made going)) ∧ going + n = 20 ∧ l + h = 13 ∧
  need (countsOf fs) ns l t = none ∧ numsOk t ∧ EnvOk' env ∧ (∀ x ∈ ns, (lookI env x).isSome = true) ∧ env.length + h ≤ 2000 ∧ RsP C cs fs fuel going M q dx i rt ex (wk (callF fs fuel n) t env made)
theorem pwork_mk {C : Addr} {cs : Ex → Addr} {fs : List Fn} {fuel : Int} {n h : Nat} {M M' : Mem} {rt : DV → Mem → Prop} {ex : Value → Mem → Prop} {q dx : Addr} {i made going : Nat} {t : Tree} {env : Env} (ns : List Str) (l : Nat)
    (hM : M'[i]? = some (q, .ins C dx (tellF fs fuel made going))) (hs : ∀ e, M'.set i e = M.set i e) (h1 : going + n = 20) (h2 : l + h = 13) (h3 : need (countsOf fs) ns l t = none) (h4 : numsOk t) (h5 : EnvOk' env) (h6 : ∀ x ∈ ns, (lookI env x).isSome = true) (h7 : env.length + h ≤ 2000)
    (hv : ∀ v m, wk (callF fs fuel n) t env made = .val v m → Small v → rt (.d (.int v)) (M.set i (q, .ins C dx (tellF fs fuel m going)))) (he : ∀ e m g', wk (callF fs fuel n) t env made = .exc e m → ex (.ref (cs e)) (M.set i (q, .ins C dx (tellF fs fuel m g')))) (wf : FsWf fs) :
    PWork C cs fs fuel n h M' [.m q, .d t.dat, .d (envD env)] rt ex := by
  refine ⟨q, i, dx, made, going, t, env, ns, l, rfl, hM, h1, h2, h3, h4, h5, h6, h7, ?_⟩
  cases e : wk (callF fs fuel n) t env made with
  | val v m =>
    show rt _ (M'.set i _)
    rw [hs]
    exact hv v m e (wk_small (callF_small wf.nums n) t env made v m h4 h5 (envOk_look h5) e)
  | exc x m =>
    intro g'
    rw [hs]
    exact he x m g' e
theorem pcall_mk {C : Addr} {cs : Ex → Addr} {fs : List Fn} {fuel : Int} {n : Nat} {M M' : Mem} {rt : DV → Mem → Prop} {ex : Value → Mem → Prop} {q dx : Addr} {i made going : Nat} {nm : Str} {vs : List Int} {f : Fn}
    (hM : M'[i]? = some (q, .ins C dx (tellF fs fuel made going))) (hs : ∀ e, M'.set i e = M.set i e) (h1 : going + n = 20) (h2 : ∀ v ∈ vs, Small v) (h3 : lookF fs nm = some f) (h4 : f.ps.length = vs.length)
    (hv : ∀ v m, callF fs fuel n nm vs made = .val v m → Small v → rt (.d (.int v)) (M.set i (q, .ins C dx (tellF fs fuel m going)))) (he : ∀ e m g', callF fs fuel n nm vs made = .exc e m → ex (.ref (cs e)) (M.set i (q, .ins C dx (tellF fs fuel m g')))) (wf : FsWf fs) :
    PCall C cs fs fuel n M' [.m q, .d (.str nm), .d (.lst (vs.map .int))] rt ex := by
  refine ⟨q, i, dx, made, going, nm, vs, rfl, hM, h1, h2, ⟨f, h3, h4⟩, ?_⟩
  cases e : callF fs fuel n nm vs made with
  | val v m =>
    show rt _ (M'.set i _)
    rw [hs]
    exact hv v m e (callF_small wf.nums n nm vs made v m h2 e)
  | exc x m =>
    intro g'
    rw [hs]
    exact he x m g' e
instance {M : Mem} {env : Env} {k : List (Ky × DV) → Prop} : Step (DcP M (.d (envD env)) k) (k (envM env)) := ⟨fun h => ⟨_, .dat _, h⟩⟩
theorem needL_get {counts : List (Str × Nat)} {ns : List Str} {l : Nat} {u : Tree} : ∀ {ts : List Tree} {n : Nat}, needL counts ns l ts = none → ts[n]? = some u → need counts ns l u = none
  | [], n, _, e => by simp at e
  | t :: ts, 0, h, e => by
    cases e
    rw [needL] at h
    cases q : need counts ns l u with
    | none => rfl
    | some x => rw [q] at h; cases h
  | t :: ts, n + 1, h, e => by
    rw [needL] at h
    cases q : need counts ns l t with
    | none => rw [q] at h; exact needL_get (ts := ts) (n := n) h (by simpa using e)
    | some x => rw [q] at h; cases h
theorem numsOkL_get {u : Tree} : ∀ {ts : List Tree} {n : Nat}, numsOkL ts → ts[n]? = some u → numsOk u
  | [], n, _, e => by simp at e
  | t :: ts, 0, h, e => by
    cases e
    rw [numsOkL] at h
    exact h.1
  | t :: ts, n + 1, h, e => by
    rw [numsOkL] at h
    exact numsOkL_get (ts := ts) (n := n) h.2 (by simpa using e)
theorem bindE_take {x : Str} {v : Int} : ∀ {xs : List Str} {vs : List Int} {env : Env} {n : Nat}, xs[n]? = some x → vs[n]? = some v → bindE (xs.take (n + 1)) (vs.take (n + 1)) env = envPut (bindE (xs.take n) (vs.take n) env) x v
  | [], _, _, _, h, _ => by simp at h
  | _ :: _, [], _, _, _, h => by simp at h
  | y :: xs, u :: vs, env, 0, h1, h2 => by
    cases h1
    cases h2
    rw [List.take_succ_cons, List.take_succ_cons, bindE, List.take_zero, List.take_zero, List.take_zero, List.take_zero]
    simp [bindE]
  | y :: xs, u :: vs, env, n + 1, h1, h2 => by
    rw [List.take_succ_cons, List.take_succ_cons, List.take_succ_cons, List.take_succ_cons, bindE, bindE]
    exact bindE_take (xs := xs) (vs := vs) (by simpa using h1) (by simpa using h2)
theorem bindE_some {x : Str} : ∀ {xs : List Str} {vs : List Int} {env : Env}, xs.length ≤ vs.length → (x ∈ xs ∨ (lookI env x).isSome = true) → (lookI (bindE xs vs env) x).isSome = true
  | [], vs, env, _, h => by
    have h : (lookI env x).isSome = true := h.resolve_left (by simp)
    simpa [bindE] using h
  | y :: xs, [], _, hl, _ => by simp at hl
  | y :: xs, v :: vs, env, hl, h => by
    rw [bindE]
    refine bindE_some (by simpa using hl) ?_
    rw [envPut_look]
    by_cases e : y = x
    · exact .inr (by rw [if_pos e]; rfl)
    · rcases h with h | h
      · rcases List.mem_cons.mp h with h | h
        · exact absurd h.symm e
        · exact .inl h
      · exact .inr (by rw [if_neg e]; exact h)
theorem bindE_len : ∀ (xs : List Str) (vs : List Int) (env : Env), (bindE xs vs env).length ≤ env.length + xs.length
  | [], vs, env => by simp [bindE]
  | y :: xs, [], env => by simp [bindE]
  | y :: xs, v :: vs, env => by
    rw [bindE]
    have a := bindE_len xs vs (envPut env y v)
    have b := envPut_len (x := y) (v := v) env
    rw [List.length_cons]
    omega
theorem zipT2_at {xs : List Str} {vs : List Int} {n : Nat} {y : Dat} (h : (zipT2 (xs.map .str) (vs.map .int))[n]? = some y) : ∃ x v, xs[n]? = some x ∧ vs[n]? = some v ∧ y = .tup [.str x, .int v] := by
  have hl := (List.getElem?_eq_some_iff.mp h).1
  rw [zipT2_len, List.length_map, List.length_map] at hl
  have h1 : n < xs.length := by omega
  have h2 : n < vs.length := by omega
  refine ⟨xs[n], vs[n], List.getElem?_eq_getElem h1, List.getElem?_eq_getElem h2, ?_⟩
  have e := zipT2_get (xs := xs.map Dat.str) (ys := vs.map Dat.int) (i := n) (x := .str xs[n]) (y := .int vs[n]) (by rw [List.getElem?_map, List.getElem?_eq_getElem h1]; rfl) (by rw [List.getElem?_map, List.getElem?_eq_getElem h2]; rfl)
  rw [e] at h
  exact (Option.some.inj h).symm
/-! ### freezing, within other things too -/
inductive FrzMO (p : Addr) (d : Dat) : MO → MO → Prop
  | same (m : MO) : FrzMO p d m m
  | ins {C dx : Addr} {fs gs : List (Str × DV)} (h : FrzS p d fs gs) : FrzMO p d (.ins C dx fs) (.ins C dx gs)
inductive FrzM (p : Addr) (d : Dat) : Mem → Mem → Prop
  | rest (L : Mem) : FrzM p d L L
  | cons {a : Addr} {m m' : MO} {L L' : Mem} (h : FrzMO p d m m') (r : FrzM p d L L') : FrzM p d ((a, m) :: L) ((a, m') :: L')
theorem FrzM.keys {p : Addr} {d : Dat} {L L' : Mem} (h : FrzM p d L L') : L'.map (·.1) = L.map (·.1) := by
  induction h with
  | rest => rfl
  | cons h r ih => rw [List.map_cons, List.map_cons, ih]
theorem FrzM.mem {p : Addr} {d : Dat} {L L' : Mem} (h : FrzM p d L L') : ∀ e ∈ L', ∃ m, (e.1, m) ∈ L ∧ FrzMO p d m e.2 := by
  induction h with
  | rest L => exact fun e he => ⟨e.2, he, .same _⟩
  | cons h r ih =>
    intro e he
    rcases List.mem_cons.mp he with rfl | he
    · exact ⟨_, List.mem_cons_self, h⟩
    · obtain ⟨m, a, b⟩ := ih e he
      exact ⟨m, List.mem_cons_of_mem _ a, b⟩
theorem FrzS.vf {K : PySem.W.Frag} {F : Hp} {p : Addr} {d : Dat} (hp : Rp K F (.ref p) d) {r s : List (Str × DV)} (h : FrzS p d r s) : ∀ {us : List (Str × V)}, VF K F us r → VF K F us s := by
  induction h with
  | nil => exact fun e => e
  | hit h ih =>
    intro us e
    cases e with
    | cons a r =>
      rename_i v us
      obtain rfl : v = .ref p := a
      exact .cons hp (ih r)
  | keep h ih =>
    intro us e
    cases e with
    | cons a r => exact .cons a (ih r)
theorem FrzMO.ok {K : PySem.W.Frag} {F : Hp} {p : Addr} {d : Dat} (hp : Rp K F (.ref p) d) {m m' : MO} {o : HO} (h : FrzMO p d m m') (ok : OOk K F o m) : OOk K F o m' := by
  cases h with
  | same => exact ok
  | ins h =>
    cases ok with
    | ins r => exact .ins (h.vf hp r)
theorem hss_frzM {X : Cx} {W : WX} {ds : Slots} {M M' : Mem} {st : List Stmt} {P : Po} {p : Addr} {i : Nat} {mo : MO} {d : Dat} {ds' : Slots} (hi : M[i]? = some (p, mo)) (hf : Frz mo d) (hs : FrzS p d ds ds') (hm : FrzM p d (M.eraseIdx i) M') (h : HSs X W st ds' M' P) : HSs X W st ds M P := fun n S F0 H0 F H σ D I g1 g2 g3 g4 g5 pins s I0 => by
  obtain ⟨F1, H1, o, sF, hp, ok, J, I1⟩ := I.freezeD hi hf I0
  have rp : Rp X.K F1 (.ref p) d := hf.rp hp (ok.mono sF)
  have nm := hs.names
  have J2 : In X.K S F0 H0 F1 H1 M' σ ds' := by
    refine ⟨hs.env rp J.env, J.ff, J.fh, J.new, J.keep, J.there, fun e he => ?_, fun e he => ?_, by rw [hm.keys]; exact J.nd⟩
    · obtain ⟨m, hm1, hm2⟩ := hm.mem e he
      obtain ⟨a, o2, b, c⟩ := J.mem _ hm1
      exact ⟨a, o2, b, hm2.ok rp c⟩
    · obtain ⟨m, hm1, hm2⟩ := hm.mem e he
      exact J.own (e.1, m) hm1
  exact h (n.trans nm.symm) S F0 H0 F1 H1 σ D J2 (fun F' H' M' σ' es s' I' n' q => g1 F' H' M' σ' es (sF.trans s') I' (n'.trans nm) q) (fun v F' H' M' σ' es dv s' I' o' q => g2 v F' H' M' σ' es dv (sF.trans s') I' o' q)
    (fun F' H' M' σ' es s' I' n' q => g3 F' H' M' σ' es (sF.trans s') I' (n'.trans nm) q) (fun F' H' M' σ' es s' I' n' q => g4 F' H' M' σ' es (sF.trans s') I' (n'.trans nm) q) (fun cls F' H' M' σ' es s' I' n' q => g5 cls F' H' M' σ' es (sF.trans s') I' (n'.trans nm) q) pins s I1
/-! ### the making of a teller -/
def fnM (fs : List Fn) : List (Ky × DV) := (fs.map fun f => ((.inr f.nm : Ky), f.dat)).map fun kv => (kv.1, DV.d kv.2)
theorem fnM_put {fs : List Fn} {f : Fn} (h : f.nm ∉ fs.map Fn.nm) : putKD (fnM fs) (.inr f.nm) (.d f.dat) = fnM (fs ++ [f]) := by
  have e : ((fnM fs).any fun kv => decide (kv.1 = (.inr f.nm : Ky))) = false := by
    rw [List.any_eq_false]
    intro kv hk
    unfold fnM at hk
    rw [List.map_map] at hk
    obtain ⟨g, hg, rfl⟩ := List.mem_map.mp hk
    simp only [Function.comp, decide_eq_true_eq]
    exact fun z => h (List.mem_map.mpr ⟨g, hg, Sum.inr.inj z⟩)
  unfold putKD
  rw [e, if_neg (by decide)]
  simp [fnM]
theorem fnM_len (fs : List Fn) : (fnM fs).length = fs.length := by simp [fnM]
def PInit (C : Addr) : PreG := fun M as rt ex => ∃ q dx L fs fuel, as = [.m q, .d (.lst (fs.map Fn.dat)), .d (.int fuel)] ∧ M = (q, .ins C dx []) :: L ∧ (fs.map Fn.nm).Nodup ∧ fs.length ≤ 1000 ∧ rt (.d .non) ((q, .ins C dx (tellF fs fuel 0 0)) :: L)
/-! ### a checked program -/
theorem checkFn_none {counts : List (Str × Nat)} {ah : List Str} {f : Fn} (h : checkFn counts ah f = none) : f.nm ∉ ah ∧ f.ps.Nodup ∧ need counts f.ps 1 f.body = none := by
  unfold checkFn at h
  split at h
  · cases h
  · rename_i z
    refine ⟨fun q => z (.inl q), ?_, h⟩
    by_cases q : f.ps.Nodup
    · exact q
    · exact absurd (.inr q) z
theorem or_none {a b : Option Ex} (h : a.or b = none) : a = none ∧ b = none := by
  cases a with
  | none => exact ⟨rfl, h⟩
  | some x => cases h
theorem checkL_all {counts : List (Str × Nat)} : ∀ {fs : List Fn} {ah : List Str}, checkL counts ah fs = none → (∀ f ∈ fs, f.nm ∉ ah ∧ f.ps.Nodup ∧ need counts f.ps 1 f.body = none) ∧ (fs.map Fn.nm).Nodup
  | [], _, _ => ⟨fun f hf => absurd hf (by simp), List.nodup_nil⟩
  | u :: fs, ah, h => by
    rw [checkL] at h
    obtain ⟨h1, h2⟩ := or_none h
    obtain ⟨a, b⟩ := checkL_all h2
    refine ⟨fun f hf => ?_, ?_⟩
    · rcases List.mem_cons.mp hf with rfl | hf
      · exact checkFn_none h1
      · obtain ⟨p, q⟩ := a f hf
        exact ⟨fun z => p (List.mem_append_left _ z), q⟩
    · rw [List.map_cons, List.nodup_cons]
      refine ⟨fun z => ?_, b⟩
      obtain ⟨f, hf, e⟩ := List.mem_map.mp z
      exact (a f hf).1 (by rw [e]; simp)
theorem lookC_mem {x : Str} : ∀ {cs : List (Str × Nat)}, (lookC cs x).isSome = true → x ∈ cs.map (·.1)
  | [], h => by cases h
  | (y, n) :: r, h => by
    rw [show lookC ((y, n) :: r) x = if y = x then some n else lookC r x from rfl] at h
    by_cases e : y = x
    · rw [List.map_cons, e]; exact List.mem_cons_self
    · rw [if_neg e] at h
      exact List.mem_cons_of_mem _ (lookC_mem h)
theorem counts_fold : ∀ {fs : List Fn} {acc : List (Str × Nat)}, ((acc.map (·.1)) ++ fs.map Fn.nm).Nodup → fs.foldl cstep acc = acc ++ fs.map fun f => (f.nm, f.ps.length)
  | [], acc, _ => by simp
  | u :: fs, acc, h => by
    have hu : ¬ (lookC acc u.nm).isSome = true := fun z => by
      rw [List.nodup_append] at h
      exact h.2.2 _ (lookC_mem z) u.nm (by simp) rfl
    rw [List.foldl_cons, cstep, if_neg hu, counts_fold (acc := acc ++ [(u.nm, u.ps.length)])]
    · simp
    · rw [List.map_append, List.append_assoc]
      exact h
theorem counts_map {fs : List Fn} (h : (fs.map Fn.nm).Nodup) : countsOf fs = fs.map fun f => (f.nm, f.ps.length) := by
  have q := counts_fold (fs := fs) (acc := []) (by simpa using h)
  simpa [countsOf] using q
theorem look_both {x : Str} : ∀ fs : List Fn, lookC (fs.map fun f => (f.nm, f.ps.length)) x = (lookF fs x).map fun f => f.ps.length
  | [] => rfl
  | u :: fs => by
    rw [List.map_cons]
    show (if u.nm = x then some u.ps.length else lookC _ x) = (if u.nm = x then some u else lookF fs x).map _
    rw [look_both fs]
    split <;> rfl
def FsOk (fs : List Fn) : Prop := fs.length ≤ 1000 ∧ ∀ f ∈ fs, f.ps.length ≤ 900
theorem checked_wf {fs : List Fn} (ok : FsOk fs) (nums : ∀ f ∈ fs, numsOk f.body) (h : checkL (countsOf fs) [] fs = none) : FsWf fs ∧ (fs.map Fn.nm).Nodup := by
  obtain ⟨a, b⟩ := checkL_all h
  refine ⟨⟨fun f hf => (a f hf).2.2, nums, ok.2, fun x n e => ?_⟩, b⟩
  rw [counts_map b, look_both] at e
  obtain ⟨f, hf, e⟩ := Option.map_eq_some_iff.mp e
  exact ⟨f, hf, e⟩
/-! ### told -/
def startE (counts : List (Str × Nat)) (nm : Str) (n : Nat) : Option Ex := match lookC counts nm with
  | none => some .func
  | some k => if n = k then none else some .count
def exW : Ex → Str
  | .nought => "nought"
  | .great => "great"
  | .deep => "deep"
  | .dry => "dry"
  | _ => ""
def rsD : Rs → Dat
  | .val v m => .tup [.str "value", .int v, .int m]
  | .exc e m => .tup [.str (exW e), .non, .int m]
def Goes (e : Ex) : Prop := e = .nought ∨ e = .great ∨ e = .deep ∨ e = .dry
def HGoes (h : Str → List Int → Nat → Rs) : Prop := ∀ f vs m e m', h f vs m = .exc e m' → Goes e
theorem reckon_goes {w : Deed} {a b : Int} {e : Ex} (h : reckon w a b = .error e) : Goes e := by
  have hl : ∀ z, lim z = .error e → Goes e := fun z h => by
    unfold lim at h
    split at h
    · cases h; exact .inr (.inl rfl)
    · cases h
  cases w with
  | sum => exact hl _ h
  | less => exact hl _ h
  | times => exact hl _ h
  | part =>
    by_cases hb : b = 0
    · rw [reckon, if_pos hb] at h
      cases h
      exact .inl rfl
    · rw [reckon, if_neg hb] at h
      cases h
  | below => rw [reckon] at h; cases h
mutual
theorem wk_goes {h : Str → List Int → Nat → Rs} (hs : HGoes h) : ∀ (t : Tree) (env : Env) (m : Nat) (e : Ex) (m' : Nat), wk h t env m = .exc e m' → Goes e
  | .num i, env, m, e, m', q => by rw [wk] at q; cases q
  | .name x, env, m, e, m', q => by rw [wk] at q; cases q
  | .deed w a b, env, m, e, m', q => by
    rw [wk] at q
    cases qa : wk h a env m with
    | exc x mx =>
      rw [qa] at q
      cases q
      exact wk_goes hs a env m _ _ qa
    | val u m1 =>
      simp only [qa] at q
      cases qb : wk h b env m1 with
      | exc x mx =>
        simp only [qb] at q
        cases q
        exact wk_goes hs b env m1 _ _ qb
      | val z m2 =>
        simp only [qb] at q
        cases qr : reckon w u z with
        | error x =>
          simp only [qr] at q
          cases q
          exact reckon_goes qr
        | ok r => simp only [qr] at q; cases q
  | .choose a b c, env, m, e, m', q => by
    rw [wk] at q
    cases qa : wk h a env m with
    | exc x mx =>
      rw [qa] at q
      cases q
      exact wk_goes hs a env m _ _ qa
    | val u m1 =>
      simp only [qa] at q
      split at q
      · exact wk_goes hs b env m1 _ _ q
      · exact wk_goes hs c env m1 _ _ q
  | .dlet x a b, env, m, e, m', q => by
    rw [wk] at q
    cases qa : wk h a env m with
    | exc x mx =>
      rw [qa] at q
      cases q
      exact wk_goes hs a env m _ _ qa
    | val u m1 =>
      simp only [qa] at q
      exact wk_goes hs b _ m1 _ _ q
  | .call f ts, env, m, e, m', q => by
    rw [wk] at q
    exact wkL_goes hs f ts [] env m e m' q
theorem wkL_goes {h : Str → List Int → Nat → Rs} (hs : HGoes h) (f : Str) : ∀ (ts : List Tree) (vs : List Int) (env : Env) (m : Nat) (e : Ex) (m' : Nat), wkL h f ts vs env m = .exc e m' → Goes e
  | [], vs, env, m, e, m', q => by
    rw [wkL] at q
    exact hs f vs m e m' q
  | t :: ts, vs, env, m, e, m', q => by
    rw [wkL] at q
    cases qa : wk h t env m with
    | exc x mx =>
      rw [qa] at q
      cases q
      exact wk_goes hs t env m _ _ qa
    | val u m1 =>
      simp only [qa] at q
      exact wkL_goes hs f ts _ env m1 e m' q
end
theorem callF_goes (fs : List Fn) (fuel : Int) : ∀ n, HGoes (callF fs fuel n)
  | 0 => fun f vs m e m' q => by cases q; exact .inr (.inr (.inl rfl))
  | n + 1 => fun f vs m e m' q => by
    unfold callF at q
    split at q
    · cases q; exact .inr (.inr (.inr rfl))
    · cases g : lookF fs f with
      | none => simp only [g] at q; cases q; exact .inr (.inr (.inr rfl))
      | some fn =>
        simp only [g] at q
        exact wk_goes (callF_goes fs fuel n) fn.body _ _ e m' q
/-! ### facts of classes, a law's end where defs raise -/
structure TCls (K : PySem.W.Frag) (C : Addr) : Prop where
  cls : Cls K C
  n1 : NoAttr K C "functions"
  n2 : NoAttr K C "fuel"
  n3 : NoAttr K C "made"
  n4 : NoAttr K C "going"
/-- a method stands in the class -/
def MethAt (K : PySem.W.Frag) (C : Addr) (m qual : Str) (st : Stmt) (ps : List Str) : Prop := ∃ f fd, Fun K m qual st f fd ∧ Meth K C m f ∧ Binds K fd ps []
/-- a class with an __init__ of its own -/
def MakeAt (K : PySem.W.Frag) (mg : Str → Option Value) (x : Str) (C : Addr) (qual : Str) (st : Stmt) (ps : List Str) : Prop := ∃ f fd, Fun K "__init__" qual st f fd ∧ Mk K C f ∧ Binds K fd ps [] ∧ mg x = some (.ref C)
theorem walk_csX {l : PySem.W.OpenLaw} {k d : Nat} {q : Program} {loose : List Str} {XP : (Str → Option Value) → Heap → Prop} {YP : World → Heap → Prop} {dr : DefRec} {K : Params → PySem.W.Frag} {Rel : List Dat → Oc → Prop} (hn : l.most = some 63) (hdf : dr.params.defaults = [])
    (h1 : d + 25 ≤ 3 * k) (h2 : 3 * d + 800 ≤ 16 * k) (hr : Room k callerA)
    (hY : ∀ (w : World) (h : Heap), YP w h → (K w.params).In h)
    (F : ∀ (w : World) (mg : Str → Option Value) (fa : Addr) (h : Heap), (K w.params).In h → h.Ns mainGlobals mg → mg dr.name = some (.ref fa) →
      ∃ fd : FuncData, (∀ (s : Shared) (u : Value), BindsTo s fd ⟨[u], []⟩ [("_law_script", u)]) ∧ ∀ base : Heap, (K w.params).In base → base.Ns mainGlobals mg → FnR l.prog w (K w.params) mg base (L2.CX l.prog w) d fa fd ["_law_script"] (spD (K w.params) Rel))
    (hR : ∀ ns : List Int, ns.length ≤ 63 → Rel [.scr ns] (.val (.bl true))) :
    PySem.W.WalkO q loose XP YP l.row.toRowW dr [] (fun f vs => PySem.call f vs) :=
  L2.walk_of (n := 63) (k := k) (x := "_law_script") (CX := fun w => L2.CX l.prog w) (sp := fun w => spD (K w.params) Rel) hn (by decide) hdf hr hY
    (fun w mg fa h KX G hmg => (F w mg fa h KX G hmg).elim fun fd ⟨b, g⟩ => ⟨fd, b, fun base kb nb => fnr_ok (g base kb nb) h1 h2⟩)
    (fun w H a ns hl _ hS => ⟨H, [.scr ns], .val (.bl true), fun _ _ e => e, .cons (.scr hS) .nil, hR ns hl, fun v F' H' _ r => by cases r; rfl⟩) fun _ _ _ _ _ z => by
      obtain ⟨_, _, _, _, _, _, _, _, _, _, _, _, z⟩ := z
      exact z.elim
end CS

/-! CsMach: while; lists that lose their end; parts of lists, and tuples, that may change. -/
namespace CS
open PySem L2
section
variable {X : Cx} {W : WX} {c e o a b : Expr} {body : List Stmt} {ds : Slots} {M : Mem} {pos apos p2 : Pos} {R : DV → Mem → Prop} {Xp : Value → Mem → Prop}
variable {pn : Slots → Mem → Prop} {pr : DV → Mem → Prop} {pb pc : Slots → Mem → Prop} {px : Value → Slots → Mem → Prop}
/-- while; J: what holds ahead of each turn, with how many turns there are at the most -/
theorem hs_while (hp : PassesOwn (model X.prog X.w) X.A X.env X.xe) (J : Nat → Slots → Mem → Prop) (m : Nat) (j0 : J m ds M)
    (turn : ∀ k ds' M', J k ds' M' → ds'.map (·.1) = ds.map (·.1) → HT X W c ds' M' (fun t M1 => if t = true then HSs X W body ds' M1 ⟨fun d2 M2 => ∃ k', k' < k ∧ J k' d2 M2, pr, pn, fun d2 M2 => ∃ k', k' < k ∧ J k' d2 M2, px⟩ else pn ds' M1) (fun cls M1 => px cls ds' M1)) :
    HS X W (.While c body [] pos) ds M ⟨pn, pr, pb, pc, px⟩ := fun n => by
  refine hs_of (ps_while hp (pt_t X c) (pss_t X body)) (fun n S F0 H0 F H σ D I g1 g2 g3 g4 g5 => ?_) n
  refine ⟨fun k σ' H' => ∃ F' ds' M', Same F F' ∧ In X.K S F0 H0 F' H' M' σ' ds' ∧ ds'.map (·.1) = ds.map (·.1) ∧ J k ds' M', ⟨m, F, ds, M, .refl _, I, rfl, j0⟩, ?_⟩
  rintro k σ' H' ⟨F', ds', M', s', I', n', j'⟩
  refine turn k ds' M' j' n' (n.trans n'.symm) S F0 H0 F' H' σ' I' _ (fun t F1 H1 M1 s1 I1 q1 => ?_) (fun cls F1 H1 M1 s1 I1 q1 => g5 cls F1 H1 M1 σ' ds' (s'.trans s1) I1 n' q1)
  cases t with
  | true =>
    rw [if_pos rfl] at q1 ⊢
    refine ⟨fun σ2 H2 => ∃ k' F' ds' M', k' < k ∧ Same F F' ∧ In X.K S F0 H0 F' H2 M' σ2 ds' ∧ ds'.map (·.1) = ds.map (·.1) ∧ J k' ds' M', fun σ2 H2 ⟨k', F2, d2, M2, h, r⟩ => ⟨k', h, F2, d2, M2, r⟩, ?_⟩
    refine q1 (n.trans n'.symm) S F0 H0 F1 H1 σ' _ I1 ?_ ?_ ?_ ?_ ?_
    · exact fun F3 H3 M3 σ3 ds3 s3 I3 n3 q3 => q3.elim fun k' z => ⟨k', F3, ds3, M3, z.1, (s'.trans s1).trans s3, I3, n3.trans n', z.2⟩
    · exact fun v3 F3 H3 M3 σ3 ds3 dv3 s3 I3 o3 q3 => g2 v3 F3 H3 M3 σ3 ds3 dv3 ((s'.trans s1).trans s3) I3 o3 q3
    · exact fun F3 H3 M3 σ3 ds3 s3 I3 n3 q3 => g1 F3 H3 M3 σ3 ds3 ((s'.trans s1).trans s3) I3 (n3.trans n') q3
    · exact fun F3 H3 M3 σ3 ds3 s3 I3 n3 q3 => q3.elim fun k' z => ⟨k', F3, ds3, M3, z.1, (s'.trans s1).trans s3, I3, n3.trans n', z.2⟩
    · exact fun cls F3 H3 M3 σ3 ds3 s3 I3 n3 q3 => g5 cls F3 H3 M3 σ3 ds3 ((s'.trans s1).trans s3) I3 (n3.trans n') q3
  | false =>
    rw [if_neg Bool.false_ne_true] at q1 ⊢
    exact g1 F1 H1 M1 σ' ds' (s'.trans s1) I1 n' q1
/-! ### pop -/
theorem VL.snoc {K : PySem.W.Frag} {F : Hp} {y : DV} : ∀ {xs : List DV} {vs : List V}, VL K F vs (xs ++ [y]) → ∃ ws u, vs = ws ++ [u] ∧ VL K F ws xs ∧ VOk K F u y
  | [], _, h => by
    cases h with
    | cons a r =>
      cases r
      exact ⟨[], _, rfl, .nil, a⟩
  | x :: xs, _, h => by
    cases h with
    | cons a r =>
      obtain ⟨ws, u, rfl, h1, h2⟩ := VL.snoc r
      exact ⟨_ :: ws, u, rfl, .cons a h1, h2⟩
def PopP (M : Mem) (p : Addr) (j : Nat) (m : MO) (k : DV → Mem → Prop) : Prop := ∃ xs y, m = .lst (xs ++ [y]) ∧ k y (M.set j (p, .lst xs))
theorem he_pop (h : HE X W o ds M (fun x M1 => ObjP M1 x fun p j m => PopP M1 p j m R) Xp) (hbase : attributeBase o "pop" X.env (eval o X.env) = eval o X.env) (hline : (apos.endLine == pos.line) = true) : HE X W (.Call (.Attribute o "pop" apos) [] [] pos) ds M R Xp :=
  he_of (pe_bm0 PySem.F.plainAttrs_list PySem.F.slot_list_pop PySem.F.type_list_pop mt_pop (pe_t X o) hbase hline) fun n S F0 H0 F H σ I Q q x => h n S F0 H0 F H σ I _ (fun v F1 H1 M1 dv s1 I1 o1 g1 => by
    obtain ⟨p, j, m, rfl, hj, xs, y, rfl, g⟩ := g1
    obtain rfl : v = .ref p := o1
    obtain ⟨_, u, hu, ou⟩ := I1.mem _ (List.mem_of_getElem? hj)
    cases ou with
    | lst r =>
      obtain ⟨ws, w, rfl, r1, r2⟩ := r.snoc
      refine ⟨.inl ⟨rfl, _, .of hu⟩, p, _, w, rfl, rfl, hu, ?_, ?_⟩
      · rw [List.length_append, List.length_singleton, Nat.add_sub_cancel, List.getElem?_append_right (Nat.le_refl _), Nat.sub_self]; rfl
      · rw [List.dropLast_concat]
        exact q w F1 _ _ y s1 (I1.setM hj (.lst r1)) r2 g) x
/-! ### parts that may change -/
theorem he_slM {lo hi : Option Expr} (h : HE X W a ds M (fun x M1 => HO' X W lo ds M1 (fun i M2 => HO' X W hi ds M2 (fun j M3 => ∃ xs, LOf M3 x xs ∧ ∀ p, R (.m p) ((p, .lst ((cutD xs i j).map .d)) :: M3)) Xp) Xp) Xp) : HE X W (.Subscript a (.Slice lo hi none p2) pos) ds M R Xp :=
  he_of (pe_slice (sl_list.or sl_tup) (pe_t X a) (po_t X lo) (po_t X hi)) fun n S F0 H0 F H σ I Q q x => h n S F0 H0 F H σ I _ (fun v F1 H1 M1 dv s1 I1 o1 g1 =>
    wo_t n g1 I1 _ (fun i F2 H2 M2 s2 I2 g2 => wo_t n g2 I2 _ (fun j F3 H3 M3 s3 I3 g3 => by
      obtain ⟨xs, hl, g⟩ := g3
      have o3 := (o1.mono s2).mono s3
      have s13 := (s1.trans s2).trans s3
      obtain ⟨p, vs, rfl, hp, r⟩ := hl.get I3 o3
      exact .inl ⟨p, vs, rfl, .of hp, fun r2 hr => q _ F3 _ _ (.m r2) s13 (I3.newC hr (.lst (VL.of_data (r.slice i j)))) rfl (g r2)⟩)
      fun cls F3 H3 M3 s3 I3 g3 => x cls F3 H3 M3 ((s1.trans s2).trans s3) I3 g3) fun cls F2 H2 M2 s2 I2 g2 => x cls F2 H2 M2 (s1.trans s2) I2 g2) x
/-! ### things that may change, in another order; some of them left out -/
theorem hss_part {st : List Stmt} {P : Po} {M2 : Mem} (h : Part M M2) (g : HSs X W st ds M2 P) : HSs X W st ds M P := fun n S F0 H0 F H σ D I g1 g2 g3 g4 g5 =>
  g n S F0 H0 F H σ D (I.part h) g1 g2 g3 g4 g5
theorem hss_nd {st : List Stmt} {P : Po} (g : (M.map (·.1)).Nodup → HSs X W st ds M P) : HSs X W st ds M P := fun n S F0 H0 F H σ D I g1 g2 g3 g4 g5 =>
  g I.nd n S F0 H0 F H σ D I g1 g2 g3 g4 g5
theorem hs_nd {st : Stmt} {P : Po} (g : (M.map (·.1)).Nodup → HS X W st ds M P) : HS X W st ds M P := fun n S F0 H0 F H σ D I g1 g2 g3 g4 g5 =>
  g I.nd n S F0 H0 F H σ D I g1 g2 g3 g4 g5
end
end CS

/-! CsRows: rows, the making of rows, the machine: in plain Lean. -/
namespace CS
open PySem L2
inductive Row where
  | push (i : Int) | load (s : Nat) | keep (s : Nat) | dod (w : Deed) | unless (r : Nat) | skip (r : Nat) | call (r c room : Nat) | back
mutual
def size : Tree → Nat
  | .num _ => 1
  | .name _ => 1
  | .deed _ a b => 1 + size a + size b
  | .choose a b c => 2 + size a + size b + size c
  | .dlet _ a b => 1 + size a + size b
  | .call _ ts => 1 + sizeL ts
def sizeL : List Tree → Nat
  | [] => 0
  | t :: ts => size t + sizeL ts
end
mutual
/-- the most lets within each other, by what they hold in -/
def lets : Tree → Nat
  | .num _ => 0
  | .name _ => 0
  | .deed _ a b => max (lets a) (lets b)
  | .choose a b c => max (lets a) (max (lets b) (lets c))
  | .dlet _ a b => max (lets a) (1 + lets b)
  | .call _ ts => letsL ts
def letsL : List Tree → Nat
  | [] => 0
  | t :: ts => max (lets t) (letsL ts)
end
mutual
/-- the greatest height of the stack -/
def high : Tree → Nat
  | .num _ => 1
  | .name _ => 1
  | .deed _ a b => max (high a) (1 + high b)
  | .choose a b c => max (high a) (max (high b) (high c))
  | .dlet _ a b => max (high a) (high b)
  | .call _ ts => max 1 (highL 0 ts)
def highL : Nat → List Tree → Nat
  | _, [] => 0
  | k, t :: ts => max (k + high t) (highL (k + 1) ts)
end
/-- names and their slots -/
abbrev Sls := List (Str × Nat)
def lookS : Sls → Str → Option Nat
  | [], _ => none
  | (y, n) :: r, x => if y = x then some n else lookS r x
def putS (sl : Sls) (x : Str) (v : Nat) : Sls := if (sl.any fun q => decide (q.1 = x)) = true then sl.map (fun q => if q.1 = x then (q.1, v) else q) else sl ++ [(x, v)]
structure Start where
  at_ : Nat
  cnt : Nat
  room : Nat
  top : Nat
abbrev Starts := List (Str × Start)
def lookT : Starts → Str → Option Start
  | [], _ => none
  | (y, n) :: r, x => if y = x then some n else lookT r x
mutual
/-- the rows of a tree -/
def rowsOf (sts : Starts) : Tree → Sls → Nat → Nat → List Row
  | .num i, _, _, _ => [.push i]
  | .name x, sl, _, _ => [.load ((lookS sl x).getD 0)]
  | .deed w a b, sl, free, k => rowsOf sts a sl free k ++ (rowsOf sts b sl free (k + size a) ++ [.dod w])
  | .choose a b c, sl, free, k =>
    rowsOf sts a sl free k ++ (.unless (k + size a + 1 + size b + 1) :: (rowsOf sts b sl free (k + size a + 1) ++ (.skip (k + size a + 1 + size b + 1 + size c) :: rowsOf sts c sl free (k + size a + 1 + size b + 1))))
  | .dlet x a b, sl, free, k => rowsOf sts a sl free k ++ (.keep free :: rowsOf sts b (putS sl x free) (free + 1) (k + size a + 1))
  | .call f ts, sl, free, k => rowsL sts ts sl free k ++ [match lookT sts f with
    | some s => .call s.at_ s.cnt s.room
    | none => .back]
def rowsL (sts : Starts) : List Tree → Sls → Nat → Nat → List Row
  | [], _, _, _ => []
  | t :: ts, sl, free, k => rowsOf sts t sl free k ++ rowsL sts ts sl free (k + size t)
end
mutual
theorem rows_len (sts : Starts) : ∀ (t : Tree) (sl : Sls) (free k : Nat), (rowsOf sts t sl free k).length = size t
  | .num i, sl, free, k => by rw [rowsOf, size]; rfl
  | .name x, sl, free, k => by rw [rowsOf, size]; rfl
  | .deed w a b, sl, free, k => by
    rw [rowsOf, size, List.length_append, List.length_append, rows_len sts a, rows_len sts b, List.length_singleton]; omega
  | .choose a b c, sl, free, k => by
    rw [rowsOf, size, List.length_append, List.length_cons, List.length_append, List.length_cons, rows_len sts a, rows_len sts b, rows_len sts c]; omega
  | .dlet x a b, sl, free, k => by
    rw [rowsOf, size, List.length_append, List.length_cons, rows_len sts a, rows_len sts b]; omega
  | .call f ts, sl, free, k => by
    rw [rowsOf, size, List.length_append, rowsL_len sts ts, List.length_singleton]; omega
theorem rowsL_len (sts : Starts) : ∀ (ts : List Tree) (sl : Sls) (free k : Nat), (rowsL sts ts sl free k).length = sizeL ts
  | [], sl, free, k => by rw [rowsL, sizeL]; rfl
  | t :: ts, sl, free, k => by rw [rowsL, sizeL, List.length_append, rows_len sts t, rowsL_len sts ts]
end
/-! ### slots -/
theorem slot_any (x : Str) : ∀ sl : Sls, (sl.any fun q => decide (q.1 = x)) = (lookS sl x).isSome
  | [] => rfl
  | (y, n) :: r => by
    rw [List.any_cons, slot_any x r, show lookS ((y, n) :: r) x = if y = x then some n else lookS r x from rfl]
    by_cases h : y = x
    · rw [if_pos h]; simp [h]
    · rw [if_neg h]; simp [h]
theorem slot_map {x z : Str} {v : Nat} : ∀ sl : Sls, lookS (sl.map fun q => if q.1 = x then (q.1, v) else q) z = if x = z ∧ (lookS sl x).isSome = true then some v else lookS sl z
  | [] => by simp [lookS]
  | (y, n) :: r => by
    have ih := slot_map (x := x) (z := z) (v := v) r
    rw [List.map_cons]
    by_cases h : y = x
    · subst h
      rw [if_pos rfl]
      show (if y = z then some v else lookS (r.map _) z) = if y = z ∧ (if y = y then some n else lookS r y).isSome = true then some v else (if y = z then some n else lookS r z)
      rw [if_pos (rfl : y = y), ih]
      by_cases e : y = z
      · simp [e]
      · simp [e]
    · rw [if_neg h]
      show (if y = z then some n else lookS (r.map _) z) = if x = z ∧ (if y = x then some n else lookS r x).isSome = true then some v else (if y = z then some n else lookS r z)
      rw [if_neg h, ih]
      by_cases e : y = z
      · have e2 : ¬ x = z := fun q => h (e.trans q.symm)
        simp [e, e2]
      · simp [e]
theorem slot_snoc {x z : Str} {v : Nat} : ∀ sl : Sls, lookS sl x = none → lookS (sl ++ [(x, v)]) z = if x = z then some v else lookS sl z
  | [], _ => rfl
  | (y, n) :: r, h => by
    rw [show lookS ((y, n) :: r) x = if y = x then some n else lookS r x from rfl] at h
    by_cases e : y = x
    · rw [if_pos e] at h; cases h
    · rw [if_neg e] at h
      show (if y = z then some n else lookS (r ++ [(x, v)]) z) = if x = z then some v else (if y = z then some n else lookS r z)
      rw [slot_snoc r h]
      by_cases e2 : y = z
      · rw [if_pos e2, if_neg (fun q => e (e2.trans q.symm)), if_pos e2]
      · rw [if_neg e2, if_neg e2]
theorem putS_look {x z : Str} {v : Nat} {sl : Sls} : lookS (putS sl x v) z = if x = z then some v else lookS sl z := by
  unfold putS
  rw [slot_any]
  cases h : lookS sl x with
  | some n =>
    rw [if_pos (show (some n).isSome = true from rfl), slot_map, h]
    simp
  | none =>
    rw [if_neg (by simp), slot_snoc sl h]
/-! ### the machine -/
structure MS where
  at_ : Nat
  st : List Int
  fr : List (Nat × List Int)
  made : Nat
def enterM (fuel : Int) (row : Nat) (vs : List Int) (room : Nat) (s : MS) : Except Ex MS :=
  if s.fr.length = 20 then .error .deep else if (s.made : Int) = fuel then .error .dry
  else .ok ⟨row, s.st, (s.at_, vs ++ List.replicate (room - vs.length) 0) :: s.fr, s.made + 1⟩
/-- one row; none: what is not there is asked for -/
def mrow (fuel : Int) (s : MS) (ret : Nat) (sl : List Int) (fr : List (Nat × List Int)) : Row → Option (Except Ex MS)
  | .push i => if s.st.length < 300000 then some (.ok ⟨s.at_ + 1, i :: s.st, (ret, sl) :: fr, s.made⟩) else none
  | .load k => match sl[k]? with
    | some v => if s.st.length < 300000 then some (.ok ⟨s.at_ + 1, v :: s.st, (ret, sl) :: fr, s.made⟩) else none
    | none => none
  | .keep k => match s.st with
    | v :: st => if k < sl.length then some (.ok ⟨s.at_ + 1, st, (ret, sl.set k v) :: fr, s.made⟩) else none
    | [] => none
  | .dod w => match s.st with
    | b :: a :: st => match reckon w a b with
      | .ok z => some (.ok ⟨s.at_ + 1, z :: st, (ret, sl) :: fr, s.made⟩)
      | .error e => some (.error e)
    | _ => none
  | .unless r => match s.st with
    | v :: st => some (.ok ⟨if v = 0 then r else s.at_ + 1, st, (ret, sl) :: fr, s.made⟩)
    | [] => none
  | .skip r => some (.ok ⟨r, s.st, (ret, sl) :: fr, s.made⟩)
  | .call r c room => if c ≤ s.st.length ∧ room ≤ 100000 then some (enterM fuel r (s.st.take c).reverse room ⟨s.at_ + 1, s.st.drop c, (ret, sl) :: fr, s.made⟩) else none
  | .back => some (.ok ⟨ret, s.st, fr, s.made⟩)
def mstep (rows : List Row) (fuel : Int) (s : MS) : Option (Except Ex MS) := match s.fr with
  | [] => none
  | (ret, sl) :: fr => match rows[s.at_]? with
    | none => none
    | some r => mrow fuel s ret sl fr r
/-- how a run ends: after that many rows -/
inductive Ends (rows : List Row) (fuel : Int) : Nat → MS → Rs → Prop
  | done {s : MS} {v : Int} {st : List Int} : s.fr = [] → s.st = v :: st → Ends rows fuel 0 s (.val v s.made)
  | step {n : Nat} {s s' : MS} {r : Rs} : mstep rows fuel s = some (.ok s') → Ends rows fuel n s' r → Ends rows fuel (n + 1) s r
  | err {n : Nat} {s : MS} {e : Ex} : mstep rows fuel s = some (.error e) → Ends rows fuel (n + 1) s (.exc e s.made)
inductive Go (rows : List Row) (fuel : Int) : MS → MS → Prop
  | refl (s : MS) : Go rows fuel s s
  | step {s s' s2 : MS} : mstep rows fuel s = some (.ok s') → Go rows fuel s' s2 → Go rows fuel s s2
theorem Go.trans {rows : List Row} {fuel : Int} {a b c : MS} (h : Go rows fuel a b) (g : Go rows fuel b c) : Go rows fuel a c := by
  induction h with
  | refl => exact g
  | step e _ ih => exact .step e (ih g)
theorem Go.one {rows : List Row} {fuel : Int} {a b : MS} (h : mstep rows fuel a = some (.ok b)) : Go rows fuel a b := .step h (.refl _)
theorem Go.ends {rows : List Row} {fuel : Int} {a b : MS} {r : Rs} (h : Go rows fuel a b) : ∀ {n}, Ends rows fuel n b r → ∃ n, Ends rows fuel n a r := by
  induction h with
  | refl => exact fun g => ⟨_, g⟩
  | step e _ ih => exact fun g => (ih g).elim fun n h => ⟨n + 1, .step e h⟩
theorem ends_one {rows : List Row} {fuel : Int} : ∀ {n m : Nat} {s : MS} {r r' : Rs}, Ends rows fuel n s r → Ends rows fuel m s r' → r = r' := by
  intro n m s r r' h
  induction h generalizing m with
  | done h1 h2 =>
    intro g
    cases g with
    | done g1 g2 => rw [h2] at g2; cases g2; rfl
    | step g1 _ => unfold mstep at g1; rw [h1] at g1; cases g1
    | err g1 => unfold mstep at g1; rw [h1] at g1; cases g1
  | step h1 _ ih =>
    intro g
    cases g with
    | done g1 g2 => unfold mstep at h1; rw [g1] at h1; cases h1
    | step g1 g2 => rw [h1] at g1; cases g1; exact ih g2
    | err g1 => rw [h1] at g1; cases g1
  | err h1 =>
    intro g
    cases g with
    | done g1 g2 => unfold mstep at h1; rw [g1] at h1; cases h1
    | step g1 g2 => rw [h1] at g1; cases g1
    | err g1 => rw [h1] at g1; cases g1; rfl
/-- those rows stand there -/
def CodeAt (rows : List Row) (k : Nat) (l : List Row) : Prop := ∀ i r, l[i]? = some r → rows[k + i]? = some r
theorem CodeAt.left {rows : List Row} {k : Nat} {a b : List Row} (h : CodeAt rows k (a ++ b)) : CodeAt rows k a := fun i r e => h i r (by
  rw [List.getElem?_append_left (List.getElem?_eq_some_iff.mp e).1]; exact e)
theorem CodeAt.right {rows : List Row} {k : Nat} {a b : List Row} (h : CodeAt rows k (a ++ b)) : CodeAt rows (k + a.length) b := fun i r e => by
  rw [Nat.add_assoc]
  refine h _ r ?_
  rw [List.getElem?_append_right (by omega), Nat.add_sub_cancel_left]
  exact e
theorem CodeAt.hd {rows : List Row} {k : Nat} {r : Row} {l : List Row} (h : CodeAt rows k (r :: l)) : rows[k]? = some r := h 0 r rfl
theorem CodeAt.tl {rows : List Row} {k : Nat} {r : Row} {l : List Row} (h : CodeAt rows k (r :: l)) : CodeAt rows (k + 1) l := fun i x e => by
  rw [Nat.add_right_comm]
  exact h (i + 1) x (by rw [List.getElem?_cons_succ]; exact e)
theorem mstep_at {rows : List Row} {fuel : Int} {k : Nat} {st : List Int} {ret : Nat} {sl : List Int} {fr : List (Nat × List Int)} {m : Nat} {r : Row} (h : rows[k]? = some r) :
    mstep rows fuel ⟨k, st, (ret, sl) :: fr, m⟩ = mrow fuel ⟨k, st, (ret, sl) :: fr, m⟩ ret sl fr r := by
  unfold mstep
  simp only [h]
/-- what names stand for, by their slots -/
def SlOk (env : Env) (sl : Sls) (slots : List Int) (free : Nat) : Prop := ∀ x v, lookI env x = some v → ∃ k, lookS sl x = some k ∧ k < free ∧ slots[k]? = some v
theorem SlOk.keep {env : Env} {sl : Sls} {slots slots' : List Int} {free : Nat} (h : SlOk env sl slots free) (e : ∀ k, k < free → slots'[k]? = slots[k]?) : SlOk env sl slots' free := fun x v hv => by
  obtain ⟨k, a, b, c⟩ := h x v hv
  exact ⟨k, a, b, by rw [e k b]; exact c⟩
theorem SlOk.put {env : Env} {sl : Sls} {slots : List Int} {free : Nat} {x : Str} {v : Int} (h : SlOk env sl slots free) (hf : free < slots.length) : SlOk (envPut env x v) (putS sl x free) (slots.set free v) (free + 1) := fun z u hu => by
  rw [envPut_look] at hu
  rw [putS_look]
  by_cases e : x = z
  · rw [if_pos e] at hu ⊢
    cases hu
    exact ⟨free, rfl, Nat.lt_succ_self _, List.getElem?_set_self hf⟩
  · rw [if_neg e] at hu ⊢
    obtain ⟨k, a, b, c⟩ := h z u hu
    exact ⟨k, a, by omega, by rw [List.getElem?_set_ne (by omega)]; exact c⟩
/-- what stands in the rows: each function's start and rows -/
structure Linked (rows : List Row) (sts : Starts) (fs : List Fn) : Prop where
  hi : ∀ x f, lookF fs x = some f → high f.body ≤ 12000 ∧ f.ps.length + lets f.body ≤ 100000
  fn : ∀ x f, lookF fs x = some f → ∃ s sl, lookT sts x = some s ∧ s.cnt = f.ps.length ∧ s.room = f.ps.length + lets f.body ∧ CodeAt rows s.at_ (rowsOf sts f.body sl f.ps.length s.at_ ++ [.back]) ∧
    ∀ (vs : List Int) (w : List Int), vs.length = f.ps.length → SlOk (bindE f.ps vs []) sl (vs ++ w) f.ps.length
  nd : ∀ x f, lookF fs x = some f → ∀ vs : List Int, vs.length = f.ps.length → ∀ y ∈ f.ps, (lookI (bindE f.ps vs []) y).isSome = true
section
variable {rows : List Row} {fuel : Int} {sts : Starts} {fs : List Fn}
/-- what a tree comes to, by its rows -/
def Does (rows : List Row) (fuel : Int) (k k' : Nat) (S0 S : List Int) (ret : Nat) (slots : List Int) (fr : List (Nat × List Int)) (free m : Nat) : Rs → Prop
  | .val v m' => ∃ slots', slots'.length = slots.length ∧ (∀ i, i < free → slots'[i]? = slots[i]?) ∧ Go rows fuel ⟨k, S0, (ret, slots) :: fr, m⟩ ⟨k', v :: S, (ret, slots') :: fr, m'⟩
  | .exc e m' => ∃ s', Go rows fuel ⟨k, S0, (ret, slots) :: fr, m⟩ s' ∧ mstep rows fuel s' = some (.error e) ∧ s'.made = m'
theorem Does.after {k k1 k' : Nat} {S0 S1 S : List Int} {ret : Nat} {slots slots1 : List Int} {fr : List (Nat × List Int)} {free m m1 : Nat} {r : Rs}
    (g : Go rows fuel ⟨k, S0, (ret, slots) :: fr, m⟩ ⟨k1, S1, (ret, slots1) :: fr, m1⟩) (hl : slots1.length = slots.length) (hs : ∀ i, i < free → slots1[i]? = slots[i]?) (h : Does rows fuel k1 k' S1 S ret slots1 fr free m1 r) : Does rows fuel k k' S0 S ret slots fr free m r := by
  cases r with
  | val v m' =>
    obtain ⟨s2, a, b, c⟩ := h
    exact ⟨s2, a.trans hl, fun i hi => (b i hi).trans (hs i hi), g.trans c⟩
  | exc e m' =>
    obtain ⟨s', a, b, c⟩ := h
    exact ⟨s', g.trans a, b, c⟩
theorem Does.more {k k' : Nat} {S0 S : List Int} {ret : Nat} {slots : List Int} {fr : List (Nat × List Int)} {free free' m : Nat} {r : Rs} (hf : free ≤ free') (h : Does rows fuel k k' S0 S ret slots fr free' m r) : Does rows fuel k k' S0 S ret slots fr free m r := by
  cases r with
  | val v m' =>
    obtain ⟨s2, a, b, c⟩ := h
    exact ⟨s2, a, fun i hi => b i (by omega), c⟩
  | exc e m' => exact h
/-- one row more in the end, which leaves the slots -/
theorem Does.exc {k k' k2 : Nat} {S0 S S2 : List Int} {ret : Nat} {slots : List Int} {fr : List (Nat × List Int)} {free m m' : Nat} {e : Ex} (h : Does rows fuel k k' S0 S ret slots fr free m (.exc e m')) : Does rows fuel k k2 S0 S2 ret slots fr free m (.exc e m') := h
mutual
/-- the rows of a tree do what the tree tells -/
theorem rows_do (L : Linked rows sts fs) (wf : ∀ x n, lookC (countsOf fs) x = some n → ∃ f, lookF fs x = some f ∧ f.ps.length = n) (n : Nat)
    (HC : ∀ (x : Str) (f : Fn) (s : Start) (vs : List Int) (k : Nat) (S : List Int) (fr : List (Nat × List Int)) (m : Nat), lookF fs x = some f → lookT sts x = some s → vs.length = f.ps.length → fr.length + n = 20 → S.length ≤ 12000 * fr.length → rows[k]? = some (.call s.at_ s.cnt s.room) → ∀ ret slots fr', fr = (ret, slots) :: fr' →
      Does rows fuel k (k + 1) (vs.reverse ++ S) S ret slots fr' slots.length m (callF fs fuel n x vs m)) :
    ∀ (t : Tree) (ns : List Str) (l : Nat) (env : Env) (m : Nat) (sl : Sls) (slots : List Int) (free k : Nat) (S : List Int) (ret : Nat) (fr : List (Nat × List Int)), need (countsOf fs) ns l t = none → (∀ x ∈ ns, (lookI env x).isSome = true) → SlOk env sl slots free → free + lets t ≤ slots.length →
      CodeAt rows k (rowsOf sts t sl free k) → fr.length + 1 + n = 20 → S.length + high t ≤ 12000 * (fr.length + 1) → Does rows fuel k (k + size t) S S ret slots fr free m (wk (callF fs fuel n) t env m)
  | .num i, ns, l, env, m, sl, slots, free, k, S, ret, fr, hn, hns, hsl, hfr, hc, hlen, hS => by
    rw [wk, size]
    rw [rowsOf] at hc
    rw [high] at hS
    exact ⟨slots, rfl, fun _ _ => rfl, .one (by rw [mstep_at hc.hd]; unfold mrow; simp only; rw [if_pos (by omega)])⟩
  | .name x, ns, l, env, m, sl, slots, free, k, S, ret, fr, hn, hns, hsl, hfr, hc, hlen, hS => by
    rw [wk, size]
    rw [rowsOf] at hc
    rw [need] at hn
    split at hn
    · cases hn
    split at hn
    · rename_i hx
      obtain ⟨v, hv⟩ := Option.isSome_iff_exists.mp (hns x hx)
      obtain ⟨i, a, b, c⟩ := hsl x v hv
      rw [hv]
      rw [a] at hc
      rw [high] at hS
      exact ⟨slots, rfl, fun _ _ => rfl, .one (by rw [mstep_at hc.hd]; unfold mrow; simp only [Option.getD_some, c]; rw [if_pos (by omega)])⟩
    · cases hn
  | .deed w a b, ns, l, env, m, sl, slots, free, k, S, ret, fr, hn, hns, hsl, hfr, hc, hlen, hS => by
    rw [need] at hn
    split at hn
    · cases hn
    obtain ⟨hn1, hn2⟩ := or_none hn
    rw [lets] at hfr
    rw [high] at hS
    rw [rowsOf] at hc
    have h1 := rows_do L wf n HC a ns (l + 1) env m sl slots free k S ret fr hn1 hns hsl (by omega) hc.left hlen (by omega)
    have hc2 := hc.right
    rw [rows_len] at hc2
    rw [wk, size]
    cases q1 : wk (callF fs fuel n) a env m with
    | exc e m1 =>
      rw [q1] at h1
      exact h1
    | val u m1 =>
      rw [q1] at h1
      obtain ⟨s1, l1, k1, g1⟩ := h1
      refine Does.after g1 l1 k1 ?_
      have h2 := rows_do L wf n HC b ns (l + 1) env m1 sl s1 free (k + size a) (u :: S) ret fr hn2 hns (hsl.keep k1) (by omega) hc2.left hlen (by rw [List.length_cons]; omega)
      have hc3 := hc2.right
      rw [rows_len] at hc3
      simp only
      cases q2 : wk (callF fs fuel n) b env m1 with
      | exc e m2 =>
        rw [q2] at h2
        exact h2
      | val v m2 =>
        rw [q2] at h2
        obtain ⟨s2, l2, k2, g2⟩ := h2
        refine Does.after g2 l2 k2 ?_
        simp only
        cases q3 : reckon w u v with
        | ok z => exact ⟨s2, rfl, fun _ _ => rfl, .one (by rw [mstep_at hc3.hd]; unfold mrow; simp only [q3]; rw [show k + size a + size b + 1 = k + (1 + size a + size b) by omega])⟩
        | error e => exact ⟨_, .refl _, by rw [mstep_at hc3.hd]; unfold mrow; simp only [q3], rfl⟩
  | .choose a b c, ns, l, env, m, sl, slots, free, k, S, ret, fr, hn, hns, hsl, hfr, hc, hlen, hS => by
    rw [need] at hn
    split at hn
    · cases hn
    obtain ⟨hn, hn3⟩ := or_none hn
    obtain ⟨hn1, hn2⟩ := or_none hn
    rw [lets] at hfr
    rw [high] at hS
    rw [rowsOf] at hc
    have h1 := rows_do L wf n HC a ns (l + 1) env m sl slots free k S ret fr hn1 hns hsl (by omega) hc.left hlen (by omega)
    have hc2 := hc.right
    rw [rows_len] at hc2
    have hc3 := hc2.tl
    have hc4 := hc3.right
    rw [rows_len] at hc4
    rw [wk, size]
    cases q1 : wk (callF fs fuel n) a env m with
    | exc e m1 =>
      rw [q1] at h1
      exact h1
    | val u m1 =>
      rw [q1] at h1
      obtain ⟨s1, l1, k1, g1⟩ := h1
      refine Does.after g1 l1 k1 ?_
      simp only
      by_cases hu : u = 0
      · rw [if_neg (fun z => z hu)]
        refine Does.after (k1 := k + size a + 1 + size b + 1) (S1 := S) (slots1 := s1) (m1 := m1) (.one (by rw [mstep_at hc2.hd]; unfold mrow; simp only [hu, if_true])) rfl (fun _ _ => rfl) ?_
        have h2 := rows_do L wf n HC c ns (l + 1) env m1 sl s1 free (k + size a + 1 + size b + 1) S ret fr hn3 hns (hsl.keep k1) (by omega) hc4.tl hlen (by omega)
        rw [show k + size a + 1 + size b + 1 + size c = k + (2 + size a + size b + size c) by omega] at h2
        exact h2
      · rw [if_pos hu]
        refine Does.after (k1 := k + size a + 1) (S1 := S) (slots1 := s1) (m1 := m1) (.one (by rw [mstep_at hc2.hd]; unfold mrow; simp only [if_neg hu])) rfl (fun _ _ => rfl) ?_
        have h2 := rows_do L wf n HC b ns (l + 1) env m1 sl s1 free (k + size a + 1) S ret fr hn2 hns (hsl.keep k1) (by omega) hc3.left hlen (by omega)
        cases q2 : wk (callF fs fuel n) b env m1 with
        | exc e m2 =>
          rw [q2] at h2
          exact h2
        | val v m2 =>
          rw [q2] at h2
          obtain ⟨s2, l2, k2, g2⟩ := h2
          refine Does.after g2 l2 k2 ?_
          exact ⟨s2, rfl, fun _ _ => rfl, .one (by rw [mstep_at hc4.hd]; unfold mrow; rw [show k + size a + 1 + size b + 1 + size c = k + (2 + size a + size b + size c) by omega])⟩
  | .dlet x a b, ns, l, env, m, sl, slots, free, k, S, ret, fr, hn, hns, hsl, hfr, hc, hlen, hS => by
    rw [need] at hn
    split at hn
    · cases hn
    obtain ⟨hn1, hn2⟩ := or_none hn
    rw [lets] at hfr
    rw [high] at hS
    rw [rowsOf] at hc
    have h1 := rows_do L wf n HC a ns (l + 1) env m sl slots free k S ret fr hn1 hns hsl (by omega) hc.left hlen (by omega)
    have hc2 := hc.right
    rw [rows_len] at hc2
    rw [wk, size]
    cases q1 : wk (callF fs fuel n) a env m with
    | exc e m1 =>
      rw [q1] at h1
      exact h1
    | val u m1 =>
      rw [q1] at h1
      obtain ⟨s1, l1, k1, g1⟩ := h1
      refine Does.after g1 l1 k1 ?_
      simp only
      have hf : free < s1.length := by omega
      refine Does.after (k1 := k + size a + 1) (S1 := S) (slots1 := s1.set free u) (m1 := m1) (.one (by rw [mstep_at hc2.hd]; unfold mrow; simp only [if_pos hf])) (by rw [List.length_set]) (fun i hi => List.getElem?_set_ne (by omega)) ?_
      have h2 := rows_do L wf n HC b (ns ++ [x]) (l + 1) (envPut env x u) m1 (putS sl x free) (s1.set free u) (free + 1) (k + size a + 1) S ret fr hn2 (fun z hz => by
        rw [envPut_look]
        split
        · rfl
        · rename_i hne
          rcases List.mem_append.mp hz with hz | hz
          · exact hns z hz
          · exact absurd (List.mem_singleton.mp hz).symm hne) ((hsl.keep k1).put hf) (by rw [List.length_set]; omega) hc2.tl hlen (by omega)
      rw [show k + size a + 1 + size b = k + (1 + size a + size b) by omega] at h2
      exact h2.more (by omega)
  | .call f ts, ns, l, env, m, sl, slots, free, k, S, ret, fr, hn, hns, hsl, hfr, hc, hlen, hS => by
    rw [need] at hn
    split at hn
    · cases hn
    rw [lets] at hfr
    rw [high] at hS
    rw [rowsOf] at hc
    rw [wk, size]
    cases qc : lookC (countsOf fs) f with
    | none => rw [qc] at hn; cases hn
    | some c =>
      simp only [qc] at hn
      split at hn
      · rename_i hts
        obtain ⟨fn, hf, hfl⟩ := wf f c qc
        obtain ⟨st, _, hst, _⟩ := L.fn f fn hf
        rw [hst] at hc
        have hc2 := hc.right
        rw [rowsL_len] at hc2
        have h1 := rowsL_do L wf n HC f fn st hf hst ts [] ns (l + 1) env m sl slots free k (k + sizeL ts) S ret fr hn hns hsl (by omega) hc.left hlen (by rw [List.length_nil]; omega) (by rw [List.length_nil]; omega) rfl hc2.hd
        rw [show k + sizeL ts + 1 = k + (1 + sizeL ts) by omega] at h1
        exact h1
      · cases hn
theorem rowsL_do (L : Linked rows sts fs) (wf : ∀ x n, lookC (countsOf fs) x = some n → ∃ f, lookF fs x = some f ∧ f.ps.length = n) (n : Nat)
    (HC : ∀ (x : Str) (f : Fn) (s : Start) (vs : List Int) (k : Nat) (S : List Int) (fr : List (Nat × List Int)) (m : Nat), lookF fs x = some f → lookT sts x = some s → vs.length = f.ps.length → fr.length + n = 20 → S.length ≤ 12000 * fr.length → rows[k]? = some (.call s.at_ s.cnt s.room) → ∀ ret slots fr', fr = (ret, slots) :: fr' →
      Does rows fuel k (k + 1) (vs.reverse ++ S) S ret slots fr' slots.length m (callF fs fuel n x vs m)) (x : Str) (f : Fn) (s : Start) (hf : lookF fs x = some f) (hst : lookT sts x = some s) :
    ∀ (ts : List Tree) (vs : List Int) (ns : List Str) (l : Nat) (env : Env) (m : Nat) (sl : Sls) (slots : List Int) (free k kE : Nat) (S : List Int) (ret : Nat) (fr : List (Nat × List Int)), needL (countsOf fs) ns l ts = none → (∀ x ∈ ns, (lookI env x).isSome = true) → SlOk env sl slots free → free + letsL ts ≤ slots.length →
      CodeAt rows k (rowsL sts ts sl free k) → fr.length + 1 + n = 20 → S.length + highL vs.length ts ≤ 12000 * (fr.length + 1) → vs.length + ts.length = f.ps.length → k + sizeL ts = kE → rows[kE]? = some (.call s.at_ s.cnt s.room) → Does rows fuel k (kE + 1) (vs.reverse ++ S) S ret slots fr free m (wkL (callF fs fuel n) x ts vs env m)
  | [], vs, ns, l, env, m, sl, slots, free, k, kE, S, ret, fr, hn, hns, hsl, hfr, hc, hlen, hS, hvs, hk, hr => by
    rw [wkL]
    rw [sizeL] at hk
    subst hk
    rw [letsL] at hfr
    exact (HC x f s vs k S ((ret, slots) :: fr) m hf hst (by simpa using hvs) (by rw [List.length_cons]; omega) (by rw [List.length_cons]; omega) hr ret slots fr rfl).more (by omega)
  | t :: ts, vs, ns, l, env, m, sl, slots, free, k, kE, S, ret, fr, hn, hns, hsl, hfr, hc, hlen, hS, hvs, hk, hr => by
    rw [needL] at hn
    obtain ⟨hn1, hn2⟩ := or_none hn
    rw [letsL] at hfr
    rw [highL] at hS
    rw [rowsL] at hc
    rw [sizeL] at hk
    have h1 := rows_do L wf n HC t ns l env m sl slots free k (vs.reverse ++ S) ret fr hn1 hns hsl (by omega) hc.left hlen (by rw [List.length_append, List.length_reverse]; omega)
    have hc2 := hc.right
    rw [rows_len] at hc2
    rw [wkL]
    cases q1 : wk (callF fs fuel n) t env m with
    | exc e m1 =>
      rw [q1] at h1
      exact h1
    | val u m1 =>
      rw [q1] at h1
      obtain ⟨s1, l1, k1, g1⟩ := h1
      refine Does.after g1 l1 k1 ?_
      simp only
      have h2 := rowsL_do L wf n HC x f s hf hst ts (vs ++ [u]) ns l env m1 sl s1 free (k + size t) kE S ret fr hn2 hns (hsl.keep k1) (by omega) hc2 hlen (by rw [List.length_append, List.length_singleton]; omega) (by rw [List.length_append, List.length_singleton, ← hvs, List.length_cons]; omega) (by omega) hr
      rw [List.reverse_append] at h2
      exact h2
end
/-- the frame of a call that has begun, done to its back -/
theorem body_do (L : Linked rows sts fs) (wf : ∀ x n, lookC (countsOf fs) x = some n → ∃ f, lookF fs x = some f ∧ f.ps.length = n) (nf : ∀ f ∈ fs, need (countsOf fs) f.ps 1 f.body = none) (n : Nat)
    (HC : ∀ (x : Str) (f : Fn) (s : Start) (vs : List Int) (k : Nat) (S : List Int) (fr : List (Nat × List Int)) (m : Nat), lookF fs x = some f → lookT sts x = some s → vs.length = f.ps.length → fr.length + n = 20 → S.length ≤ 12000 * fr.length → rows[k]? = some (.call s.at_ s.cnt s.room) → ∀ ret slots fr', fr = (ret, slots) :: fr' →
      Does rows fuel k (k + 1) (vs.reverse ++ S) S ret slots fr' slots.length m (callF fs fuel n x vs m))
    (x : Str) (f : Fn) (s : Start) (hf : lookF fs x = some f) (hst : lookT sts x = some s) (vs : List Int) (hv : vs.length = f.ps.length) (S : List Int) (ret : Nat) (fr : List (Nat × List Int)) (hlen : fr.length + 1 + n = 20) (hS : S.length ≤ 12000 * fr.length) (m : Nat) :
    match wk (callF fs fuel n) f.body (bindE f.ps vs []) m with
    | .val v m' => Go rows fuel ⟨s.at_, S, (ret, vs ++ List.replicate (s.room - vs.length) 0) :: fr, m⟩ ⟨ret, v :: S, fr, m'⟩
    | .exc e m' => ∃ s', Go rows fuel ⟨s.at_, S, (ret, vs ++ List.replicate (s.room - vs.length) 0) :: fr, m⟩ s' ∧ mstep rows fuel s' = some (.error e) ∧ s'.made = m' := by
  have hh := L.hi x f hf
  obtain ⟨st, sl, h0, h1, h2, h3, h4⟩ := L.fn x f hf
  rw [hst] at h0
  cases h0
  have h := rows_do L wf n HC f.body f.ps 1 (bindE f.ps vs []) m sl (vs ++ List.replicate (s.room - vs.length) 0) f.ps.length s.at_ S ret fr (nf f (lookF_mem hf).1) (L.nd x f hf vs hv) (h4 vs _ hv) (by rw [List.length_append, List.length_replicate, hv, h2]; omega) h3.left hlen (by omega)
  have hb := h3.right
  rw [rows_len] at hb
  cases q : wk (callF fs fuel n) f.body (bindE f.ps vs []) m with
  | val v m' =>
    rw [q] at h
    obtain ⟨s', a, b, c⟩ := h
    exact c.trans (.one (by rw [mstep_at hb.hd]; rfl))
  | exc e m' =>
    rw [q] at h
    exact h
/-- a call's row does what the call tells -/
theorem call_do (L : Linked rows sts fs) (wf : ∀ x n, lookC (countsOf fs) x = some n → ∃ f, lookF fs x = some f ∧ f.ps.length = n) (nf : ∀ f ∈ fs, need (countsOf fs) f.ps 1 f.body = none) : ∀ (n : Nat) (x : Str) (f : Fn) (s : Start) (vs : List Int) (k : Nat) (S : List Int) (fr : List (Nat × List Int)) (m : Nat), lookF fs x = some f → lookT sts x = some s → vs.length = f.ps.length → fr.length + n = 20 → S.length ≤ 12000 * fr.length → rows[k]? = some (.call s.at_ s.cnt s.room) → ∀ ret slots fr', fr = (ret, slots) :: fr' →
      Does rows fuel k (k + 1) (vs.reverse ++ S) S ret slots fr' slots.length m (callF fs fuel n x vs m) := by
  intro n
  induction n with
  | zero =>
    intro x f s vs k S fr m hf hst hv hlen hS hr ret slots fr' hfr
    subst hfr
    have hh := L.hi x f hf
    obtain ⟨s', _, h0, h1, h2, _⟩ := L.fn x f hf
    rw [hst] at h0
    cases h0
    refine ⟨_, .refl _, ?_, rfl⟩
    rw [mstep_at hr]
    unfold mrow enterM
    simp only [List.length_append, List.length_reverse, h1, hv]
    rw [if_pos ⟨by omega, by omega⟩, if_pos (show ((ret, slots) :: fr').length = 20 from hlen)]
  | succ n ih =>
    intro x f s vs k S fr m hf hst hv hlen hS hr ret slots fr' hfr
    subst hfr
    have hh := L.hi x f hf
    obtain ⟨s', _, h0, h1, h2, _⟩ := L.fn x f hf
    rw [hst] at h0
    cases h0
    have e1 : (vs.reverse ++ S).take f.ps.length = vs.reverse := by rw [List.take_left' (by rw [List.length_reverse, hv])]
    have e2 : (vs.reverse ++ S).drop f.ps.length = S := by rw [List.drop_left' (by rw [List.length_reverse, hv])]
    have hl20 : ¬ ((ret, slots) :: fr').length = 20 := by omega
    have hstep : mstep rows fuel ⟨k, vs.reverse ++ S, (ret, slots) :: fr', m⟩ = some (if (m : Int) = fuel then .error .dry else .ok ⟨s.at_, S, (k + 1, vs ++ List.replicate (s.room - vs.length) 0) :: (ret, slots) :: fr', m + 1⟩) := by
      rw [mstep_at hr]
      unfold mrow enterM
      simp only [List.length_append, List.length_reverse, h1, e1, e2, List.reverse_reverse]
      rw [if_pos ⟨by omega, by omega⟩, if_neg hl20]
    rw [callF]
    by_cases hd : (m : Int) = fuel
    · rw [if_pos hd] at hstep ⊢
      exact ⟨_, .refl _, hstep, rfl⟩
    · rw [if_neg hd] at hstep ⊢
      rw [hf]
      simp only
      have hb := body_do L wf nf n ih x f s hf hst vs hv S (k + 1) ((ret, slots) :: fr') (by rw [List.length_cons] at hlen ⊢; omega) hS (m + 1)
      cases q : wk (callF fs fuel n) f.body (bindE f.ps vs []) (m + 1) with
      | val v m' =>
        rw [q] at hb
        exact ⟨slots, rfl, fun _ _ => rfl, (Go.one hstep).trans hb⟩
      | exc e m' =>
        rw [q] at hb
        obtain ⟨s', a, b, c⟩ := hb
        exact ⟨s', (Go.one hstep).trans a, b, c⟩
/-- the run from the start -/
theorem run_ends (L : Linked rows sts fs) (wf : ∀ x n, lookC (countsOf fs) x = some n → ∃ f, lookF fs x = some f ∧ f.ps.length = n) (nf : ∀ f ∈ fs, need (countsOf fs) f.ps 1 f.body = none) {x : Str} {f : Fn} {s : Start} {vs : List Int} (hf : lookF fs x = some f) (hst : lookT sts x = some s) (hv : vs.length = f.ps.length) (h0 : ¬ (0 : Int) = fuel) :
    ∃ n, Ends rows fuel n ⟨s.at_, [], [(0, vs ++ List.replicate (s.room - vs.length) 0)], 1⟩ (callF fs fuel 20 x vs 0) := by
  have hb := body_do (fuel := fuel) L wf nf 19 (call_do L wf nf 19) x f s hf hst vs hv [] 0 [] rfl (Nat.zero_le _) 1
  rw [callF, if_neg (by simpa using h0), hf]
  simp only
  cases q : wk (callF fs fuel 19) f.body (bindE f.ps vs []) (0 + 1) with
  | val v m' =>
    rw [q] at hb
    exact hb.ends (.done rfl rfl)
  | exc e m' =>
    rw [q] at hb
    obtain ⟨s', a, b, c⟩ := hb
    subst c
    exact a.ends (n := 1) (.err b)
end
/-! ### the rows of a program -/
def startsOf : List Fn → Nat → Starts
  | [], _ => []
  | f :: r, k => (f.nm, ⟨k, f.ps.length, f.ps.length + lets f.body, high f.body⟩) :: startsOf r (k + size f.body + 1)
def slotsFrom : List Str → Nat → Sls → Sls
  | [], _, sl => sl
  | x :: xs, n, sl => slotsFrom xs (n + 1) (putS sl x n)
abbrev slotsOf (ps : List Str) : Sls := slotsFrom ps 0 []
def rowsFs (sts : Starts) : List Fn → Nat → List Row
  | [], _ => []
  | f :: r, k => rowsOf sts f.body (slotsOf f.ps) f.ps.length k ++ (.back :: rowsFs sts r (k + size f.body + 1))
abbrev smithR (fs : List Fn) : List Row := rowsFs (startsOf fs 0) fs 0
theorem SlOk.bind {all : List Int} : ∀ {xs : List Str} {vs : List Int} {env : Env} {sl : Sls} {n : Nat}, xs.length = vs.length → (∀ i v, vs[i]? = some v → all[n + i]? = some v) → SlOk env sl all n → SlOk (bindE xs vs env) (slotsFrom xs n sl) all (n + xs.length)
  | [], [], env, sl, n, _, _, h => by simpa [bindE, slotsFrom] using h
  | [], _ :: _, _, _, _, hl, _, _ => by simp at hl
  | _ :: _, [], _, _, _, hl, _, _ => by simp at hl
  | x :: xs, v :: vs, env, sl, n, hl, hv, h => by
    rw [bindE, slotsFrom, List.length_cons, show n + (xs.length + 1) = n + 1 + xs.length by omega]
    refine SlOk.bind (by simpa using hl) (fun i u hu => ?_) (fun z u hu => ?_)
    · rw [show n + 1 + i = n + (i + 1) by omega]
      exact hv (i + 1) u (by rw [List.getElem?_cons_succ]; exact hu)
    · rw [envPut_look] at hu
      rw [putS_look]
      by_cases e : x = z
      · rw [if_pos e] at hu ⊢
        cases hu
        exact ⟨n, rfl, Nat.lt_succ_self _, hv 0 v rfl⟩
      · rw [if_neg e] at hu ⊢
        obtain ⟨k, a, b, c⟩ := h z u hu
        exact ⟨k, a, by omega, c⟩
theorem startsOf_look {sts : Starts} {x : Str} {f : Fn} : ∀ {fs : List Fn} {k : Nat} {rows : List Row}, lookF fs x = some f → CodeAt rows k (rowsFs sts fs k) → ∃ s, lookT (startsOf fs k) x = some s ∧ s.cnt = f.ps.length ∧ s.room = f.ps.length + lets f.body ∧ CodeAt rows s.at_ (rowsOf sts f.body (slotsOf f.ps) f.ps.length s.at_ ++ [.back])
  | [], _, _, h, _ => by cases h
  | g :: r, k, rows, h, hc => by
    unfold lookF at h
    rw [rowsFs] at hc
    unfold startsOf lookT
    by_cases e : g.nm = x
    · rw [if_pos e] at h ⊢
      cases h
      refine ⟨_, rfl, rfl, rfl, ?_⟩
      have hc : CodeAt rows k ((rowsOf sts f.body (slotsOf f.ps) f.ps.length k ++ [.back]) ++ rowsFs sts r (k + size f.body + 1)) := by rw [List.append_assoc]; exact hc
      exact hc.left
    · rw [if_neg e] at h ⊢
      have hc2 := hc.right.tl
      rw [rows_len] at hc2
      exact startsOf_look h hc2
theorem CodeAt.self (l : List Row) : CodeAt l 0 l := fun i r h => by rw [Nat.zero_add]; exact h
mutual
theorem high_le (cs : List (Str × Nat)) (hc : ∀ x n, lookC cs x = some n → n ≤ 900) : ∀ (t : Tree) (ns : List Str) (l : Nat), need cs ns l t = none → high t ≤ 901 * (13 - l)
  | .num i, ns, l, h => by
    rw [need] at h
    split at h
    · cases h
    · rw [high]; omega
  | .name x, ns, l, h => by
    rw [need] at h
    split at h
    · cases h
    · rw [high]; omega
  | .deed w a b, ns, l, h => by
    rw [need] at h
    split at h
    · cases h
    obtain ⟨h1, h2⟩ := or_none h
    have e1 := high_le cs hc a ns (l + 1) h1
    have e2 := high_le cs hc b ns (l + 1) h2
    rw [high]; omega
  | .choose a b c, ns, l, h => by
    rw [need] at h
    split at h
    · cases h
    obtain ⟨h, h3⟩ := or_none h
    obtain ⟨h1, h2⟩ := or_none h
    have e1 := high_le cs hc a ns (l + 1) h1
    have e2 := high_le cs hc b ns (l + 1) h2
    have e3 := high_le cs hc c ns (l + 1) h3
    rw [high]; omega
  | .dlet x a b, ns, l, h => by
    rw [need] at h
    split at h
    · cases h
    obtain ⟨h1, h2⟩ := or_none h
    have e1 := high_le cs hc a ns (l + 1) h1
    have e2 := high_le cs hc b _ (l + 1) h2
    rw [high]; omega
  | .call f ts, ns, l, h => by
    rw [need] at h
    split at h
    · cases h
    split at h
    · cases h
    rename_i n hn
    split at h
    · have e := highL_le cs hc ts ns (l + 1) 0 h (by have := hc f n hn; omega)
      rw [high]; omega
    · cases h
theorem highL_le (cs : List (Str × Nat)) (hc : ∀ x n, lookC cs x = some n → n ≤ 900) : ∀ (ts : List Tree) (ns : List Str) (l k : Nat), needL cs ns l ts = none → k + ts.length ≤ 900 → highL k ts ≤ 900 + 901 * (13 - l)
  | [], ns, l, k, h, hk => by rw [highL]; omega
  | t :: ts, ns, l, k, h, hk => by
    rw [needL] at h
    obtain ⟨h1, h2⟩ := or_none h
    rw [List.length_cons] at hk
    have e1 := high_le cs hc t ns l h1
    have e2 := highL_le cs hc ts ns l (k + 1) h2 (by omega)
    rw [highL]; omega
end
mutual
theorem lets_le (cs : List (Str × Nat)) : ∀ (t : Tree) (ns : List Str) (l : Nat), need cs ns l t = none → lets t ≤ 13 - l
  | .num i, ns, l, h => by rw [lets]; omega
  | .name x, ns, l, h => by rw [lets]; omega
  | .deed w a b, ns, l, h => by
    rw [need] at h
    split at h
    · cases h
    obtain ⟨h1, h2⟩ := or_none h
    have e1 := lets_le cs a ns (l + 1) h1
    have e2 := lets_le cs b ns (l + 1) h2
    rw [lets]; omega
  | .choose a b c, ns, l, h => by
    rw [need] at h
    split at h
    · cases h
    obtain ⟨h, h3⟩ := or_none h
    obtain ⟨h1, h2⟩ := or_none h
    have e1 := lets_le cs a ns (l + 1) h1
    have e2 := lets_le cs b ns (l + 1) h2
    have e3 := lets_le cs c ns (l + 1) h3
    rw [lets]; omega
  | .dlet x a b, ns, l, h => by
    rw [need] at h
    split at h
    · cases h
    obtain ⟨h1, h2⟩ := or_none h
    have e1 := lets_le cs a ns (l + 1) h1
    have e2 := lets_le cs b _ (l + 1) h2
    rw [lets]; omega
  | .call f ts, ns, l, h => by
    rw [need] at h
    split at h
    · cases h
    split at h
    · cases h
    split at h
    · have e := letsL_le cs ts ns (l + 1) h
      rw [lets]; omega
    · cases h
theorem letsL_le (cs : List (Str × Nat)) : ∀ (ts : List Tree) (ns : List Str) (l : Nat), needL cs ns l ts = none → letsL ts ≤ 13 - l
  | [], ns, l, h => by rw [letsL]; omega
  | t :: ts, ns, l, h => by
    rw [needL] at h
    obtain ⟨h1, h2⟩ := or_none h
    have e1 := lets_le cs t ns l h1
    have e2 := letsL_le cs ts ns l h2
    rw [letsL]; omega
end
theorem FsWf.cnt {fs : List Fn} (wf : FsWf fs) : ∀ x n, lookC (countsOf fs) x = some n → n ≤ 900 := fun x n h => by
  obtain ⟨f, hf, e⟩ := wf.look x n h
  have := wf.len f (lookF_mem hf).1
  omega
theorem linked {fs : List Fn} (wf : FsWf fs) : Linked (smithR fs) (startsOf fs 0) fs where
  hi := fun x f hf => by
    have hm := (lookF_mem hf).1
    have e1 := high_le (countsOf fs) wf.cnt f.body f.ps 1 (wf.need f hm)
    have e2 := lets_le (countsOf fs) f.body f.ps 1 (wf.need f hm)
    have e3 := wf.len f hm
    omega
  fn := fun x f hf => by
    obtain ⟨s, a, b, c, d⟩ := startsOf_look (sts := startsOf fs 0) hf (CodeAt.self (smithR fs))
    refine ⟨s, _, a, b, c, d, fun vs w hv => ?_⟩
    have h := SlOk.bind (all := vs ++ w) (xs := f.ps) (vs := vs) (env := []) (sl := []) (n := 0) hv.symm (fun i v h => by
      rw [Nat.zero_add, List.getElem?_append_left (List.getElem?_eq_some_iff.mp h).1]; exact h) (fun z u hu => by cases hu)
    rw [Nat.zero_add] at h
    exact h
  nd := fun x f hf vs hv y hy => bindE_some (Nat.le_of_eq hv.symm) (.inl hy)
/-- the run of a program's rows comes to what its trees tell -/
theorem smith_ends {fs : List Fn} {fuel : Int} (wf : FsWf fs) {x : Str} {f : Fn} {s : Start} {vs : List Int} (hf : lookF fs x = some f) (hst : lookT (startsOf fs 0) x = some s) (hv : vs.length = f.ps.length) (h0 : ¬ (0 : Int) = fuel) :
    ∃ n, Ends (smithR fs) fuel n ⟨s.at_, [], [(0, vs ++ List.replicate (s.room - vs.length) 0)], 1⟩ (callF fs fuel 20 x vs 0) :=
  run_ends (linked wf) wf.look wf.need hf hst hv h0
end CS

/-! CsLett: words of a law; that words of one cell are unlike. -/
namespace CS
open PySem L2
/-! ### _law_word -/
abbrev alpha : Str := "abcdefghijklmnopqrstuvwxyz"
def letter (i : Int) : Str := ⟨#[((atI alpha.cps.toList (i % 26)).getD 0)]⟩
theorem alpha_len : alpha.cps.toList.length = 26 := by decide +kernel
theorem at_alpha (i : Int) : atI alpha.cps.toList (i % 26) = some ((atI alpha.cps.toList (i % 26)).getD 0) := by
  have h0 := Int.emod_nonneg i (show (26 : Int) ≠ 0 by decide)
  have h1 := Int.emod_lt_of_pos i (show (0 : Int) < 26 by decide)
  have e : atI alpha.cps.toList (i % 26) = alpha.cps.toList[(i % 26).toNat]? := by
    unfold atI ixN
    rw [if_pos h0, if_pos (by rw [alpha_len]; exact h1)]
    rfl
  rw [e, List.getElem?_eq_getElem (by rw [alpha_len]; omega)]
  rfl
theorem ix_alpha {M : Mem} {i : Int} {k : DV → Prop} (h : k (.d (.str (letter i)))) : IxP M (.d (.str alpha)) (.d (.int (i % 26))) k := ⟨_, _, rfl, .str (by decide +kernel) (at_alpha i), h⟩
def letters (n : Nat) (g : Nat → Int) : List Str := (List.range n).map fun k => letter (g k)
def word1 (r k o : Int) : Str := letter (r + o / 8) ++ Txt.join "" ((letters 7 fun j => r / 26 + j * (1 + r / 676 % 25)).take k.toNat)
theorem letters_map (m : Nat) (g : Nat → Int) (lo : Int) : (rngD lo m).mapIdx (fun n _ => Dat.str (letter (g n))) = (letters m g).map Dat.str := by
  rw [rngD_mapIdx, letters, List.map_map]
  rfl
theorem letter_len (i : Int) : (letter i).length = 1 := rfl
theorem ones : ∀ {l : List Nat}, (∀ x ∈ l, x = 1) → l.sum = l.length
  | [], _ => rfl
  | x :: l, h => by
    rw [List.sum_cons, List.length_cons, h x List.mem_cons_self, ones fun y hy => h y (List.mem_cons_of_mem _ hy), Nat.add_comm]
/-- all of l are letters -/
def Lets1 (l : List Str) : Prop := ∀ x ∈ l, x.length = 1
theorem letters_one (m : Nat) (g : Nat → Int) : Lets1 (letters m g) := by
  intro x hx
  obtain ⟨k, _, rfl⟩ := List.mem_map.mp hx
  rfl
theorem letters_len (m : Nat) (g : Nat → Int) : (letters m g).length = m := by rw [letters, List.length_map, List.length_range]
theorem one_take {l : List Str} {k : Nat} (h : Lets1 l) : Lets1 (l.take k) := fun x hx => h x (List.mem_of_mem_take hx)
theorem one_drop {l : List Str} {k : Nat} (h : Lets1 l) : Lets1 (l.drop k) := fun x hx => h x (List.mem_of_mem_drop hx)
theorem one_app {l r : List Str} (h : Lets1 l) (g : Lets1 r) : Lets1 (l ++ r) := fun x hx => (List.mem_append.mp hx).elim (h x) (g x)
theorem join_small {l : List Str} (h : Lets1 l) (a : Str) (ha : a.length ≤ 1000) (hl : l.length ≤ 1000) : a.length + (Txt.join "" l).length ≤ sizeLine := by
  have e : (Txt.join "" l).length = l.length := PySem.W.KT.join_ones l h
  rw [e, sizeLine_eq]
  omega
theorem join_ok {M : Mem} {l : List Str} {k : List Str → Prop} (h1 : Lets1 l) (h2 : l.length ≤ 1000) (h : k l) : JoinP M (.d (.lst (l.map .str))) "" k := by
  refine ⟨l, .dat, ?_, h⟩
  have e := ones (l := l.map (·.length)) fun x hx => by
    obtain ⟨y, hy, rfl⟩ := List.mem_map.mp hx
    exact h1 y hy
  rw [List.length_map] at e
  have z : (Str.ofString "").length = 0 := by decide +kernel
  rw [z]
  omega
theorem join_okM {M : Mem} {D : Addr} {j : Nat} {l : List Str} {k : List Str → Prop} (hM : M[j]? = some (D, MO.lst ((l.map Dat.str).map DV.d))) (h1 : Lets1 l) (h2 : l.length ≤ 1000) (h : k l) : JoinP M (.m D) "" k := by
  refine ⟨l, .mu hM, ?_, h⟩
  have e := ones (l := l.map (·.length)) fun x hx => by
    obtain ⟨y, hy, rfl⟩ := List.mem_map.mp hx
    exact h1 y hy
  rw [List.length_map] at e
  have z : (Str.ofString "").length = 0 := by decide +kernel
  rw [z]
  omega
theorem one_set {l : List Str} {i : Nat} {s : Str} (h : Lets1 l) (hs : s.length = 1) : Lets1 (l.set i s) := fun x hx => (List.mem_or_eq_of_mem_set hx).elim (h x) fun e => by rw [e]; exact hs
theorem one_get {l : List Str} {i : Nat} (h : Lets1 l) (hi : i < l.length) : (l.getD i "").length = 1 := by
  rw [List.getD_eq_getElem?_getD, List.getElem?_eq_getElem hi]
  exact h _ (List.getElem_mem hi)
theorem ixM {M : Mem} {D : Addr} {j : Nat} {l : List Str} {i : Int} {k : DV → Prop} (h : M[j]? = some (D, MO.lst ((l.map Dat.str).map DV.d))) (h0 : 0 ≤ i) (h1 : i.toNat < l.length) (q : k (.d (.str (l.getD i.toNat "")))) : IxA M (.m D) (.d (.int i)) k := by
  refine .inl ⟨i, _, rfl, .mu h ?_, q⟩
  have e : i = ((i.toNat : Nat) : Int) := by omega
  rw [e]
  refine atI_nat ?_
  rw [Int.toNat_natCast, List.getElem?_map, List.getElem?_map, List.getElem?_eq_getElem h1, List.getD_eq_getElem?_getD, List.getElem?_eq_getElem h1]
  rfl
theorem putM {M : Mem} {D : Addr} {j : Nat} {l : List Str} {i : Int} {s : Str} {k : Mem → Prop} (h : M[j]? = some (D, MO.lst ((l.map Dat.str).map DV.d))) (h0 : 0 ≤ i) (h1 : i.toNat < l.length) (q : k (M.set j (D, MO.lst (((l.set i.toNat s).map Dat.str).map DV.d)))) : PutA M (.m D) (.d (.int i)) (.d (.str s)) k := by
  refine .inl ⟨D, j, _, i, i.toNat, rfl, h, rfl, ?_, ?_⟩
  · unfold ixN
    rw [if_pos h0, if_pos (by rw [List.length_map, List.length_map]; omega)]
  · rw [← List.map_set, ← List.map_set]
    exact q
def letters1 (c : Int) : List Str := letters 7 fun n => c / 4 / 26 + n * (1 + c / 4 / 676 % 25)
def letters2 (c o : Int) : List Str := letters 8 fun n => c / 4 + n + 8 * (o / 8)
def letters3 (c : Int) : List Str := letters 8 fun n => c / 4 + 3 * n
def letters0 (c : Int) : List Str := letters (1 + c / 4 % 8).toNat fun n => c / 4 / 64 + n * (1 + c / 4 / 1664 % 25)
def swap3 (c o : Int) : List Str := ((letters3 c).set ((o % 7 + 1 + o / 7) % 8).toNat ((letters3 c).getD (o % 7).toNat "")).set (o % 7).toNat ((letters3 c).getD ((o % 7 + 1 + o / 7) % 8).toNat "")
/-- _law_word -/
def wordOf (c o : Int) : Str := if c % 4 = 1 then letter (c / 4 + o / 8) ++ Txt.join "" ((letters1 c).take (o % 8).toNat)
  else if c % 4 = 2 then Txt.join "" ((letters2 c o).drop (o % 8).toNat ++ (letters2 c o).take (o % 8).toNat)
  else if c % 4 = 3 then Txt.join "" (swap3 c o)
  else Txt.join "" ((letters0 c).take (c / 4 / 8 % (1 + c / 4 % 8)).toNat) ++ letter o ++ Txt.join "" ((letters0 c).drop (c / 4 / 8 % (1 + c / 4 % 8) + 1).toNat)
/-! ### words of one cell are unlike -/
theorem join_cps : ∀ l : List Str, (Txt.join "" l).cps.toList = (l.map fun s => s.cps.toList).flatten := by
  intro l
  show (Builtin.Str.glued (Str.ofString "") l).cps.toList = _
  rw [PySem.StrLaws.glued_eq_join]
  induction l with
  | nil => rfl
  | cons a r ih =>
    have e : (Str.ofString "").cps.toList = [] := by decide +kernel
    cases r with
    | nil => simp [Str.join]
    | cons b r =>
      show ((a ++ Str.ofString "") ++ Str.join (Str.ofString "") (b :: r)).cps.toList = _
      rw [List.map_cons, List.flatten_cons, ← ih]
      show ((a.cps ++ (Str.ofString "").cps) ++ (Str.join (Str.ofString "") (b :: r)).cps).toList = _
      rw [Array.toList_append, Array.toList_append, e, List.append_nil]
def codeOf (i : Int) : Nat := (atI alpha.cps.toList (i % 26)).getD 0
theorem letter_cps (i : Int) : (letter i).cps.toList = [codeOf i] := rfl
theorem codeOf_eq (i : Int) : codeOf i = 97 + (i % 26).toNat := by
  have h0 := Int.emod_nonneg i (show (26 : Int) ≠ 0 by decide)
  have h1 := Int.emod_lt_of_pos i (show (0 : Int) < 26 by decide)
  have e : atI alpha.cps.toList (i % 26) = alpha.cps.toList[(i % 26).toNat]? := by
    unfold atI ixN
    rw [if_pos h0, if_pos (by rw [alpha_len]; exact h1)]
    rfl
  have t : ∀ a : _root_.Fin 26, (alpha.cps.toList[a.val]?).getD 0 = 97 + a.val := by decide +kernel
  unfold codeOf
  rw [e]
  exact t ⟨(i % 26).toNat, by omega⟩
theorem codeOf_inj {i j : Int} (h : codeOf i = codeOf j) : i % 26 = j % 26 := by
  rw [codeOf_eq, codeOf_eq] at h
  have h0 := Int.emod_nonneg i (show (26 : Int) ≠ 0 by decide)
  have h1 := Int.emod_nonneg j (show (26 : Int) ≠ 0 by decide)
  omega
def codes (m : Nat) (g : Nat → Int) : List Nat := (List.range m).map fun k => codeOf (g k)
theorem flat_letters : ∀ (l : List Nat) (g : Nat → Int), ((l.map fun k => letter (g k)).map fun s => s.cps.toList).flatten = l.map fun k => codeOf (g k)
  | [], _ => rfl
  | a :: l, g => by rw [List.map_cons, List.map_cons, List.flatten_cons, flat_letters l g, List.map_cons, letter_cps]; rfl
theorem take_letters (m : Nat) (g : Nat → Int) (n : Nat) : (((letters m g).take n).map fun s => s.cps.toList).flatten = (codes m g).take n := by
  rw [letters, ← List.map_take, flat_letters, codes, ← List.map_take]
theorem drop_letters (m : Nat) (g : Nat → Int) (n : Nat) : (((letters m g).drop n).map fun s => s.cps.toList).flatten = (codes m g).drop n := by
  rw [letters, ← List.map_drop, flat_letters, codes, ← List.map_drop]
theorem codes_len (m : Nat) (g : Nat → Int) : (codes m g).length = m := by rw [codes, List.length_map, List.length_range]
theorem codes_get {m : Nat} {g : Nat → Int} {k : Nat} (h : k < m) : (codes m g)[k]? = some (codeOf (g k)) := by
  rw [codes, List.getElem?_map, List.getElem?_range h]; rfl
theorem app_cps (a b : Str) : (a ++ b).cps.toList = a.cps.toList ++ b.cps.toList := by
  show (a.cps ++ b.cps).toList = _
  rw [Array.toList_append]
theorem str_len (a : Str) : a.length = a.cps.toList.length := by
  show a.cps.size = _
  simp
theorem cps_ext {a b : Str} (h : a.cps.toList = b.cps.toList) : a = b := by
  cases a with
  | mk a => cases b with
    | mk b => exact congrArg Str.mk (Array.toList_inj.mp h)
/-- the codes of a word -/
def codesOf (c o : Int) : List Nat := if c % 4 = 1 then codeOf (c / 4 + o / 8) :: (codes 7 fun n => c / 4 / 26 + n * (1 + c / 4 / 676 % 25)).take (o % 8).toNat
  else if c % 4 = 2 then (codes 8 fun n => c / 4 + n + 8 * (o / 8)).drop (o % 8).toNat ++ (codes 8 fun n => c / 4 + n + 8 * (o / 8)).take (o % 8).toNat
  else if c % 4 = 3 then ((codes 8 fun n => c / 4 + 3 * n).set ((o % 7 + 1 + o / 7) % 8).toNat (codeOf (c / 4 + 3 * (o % 7)))).set (o % 7).toNat (codeOf (c / 4 + 3 * ((o % 7 + 1 + o / 7) % 8)))
  else (codes (1 + c / 4 % 8).toNat fun n => c / 4 / 64 + n * (1 + c / 4 / 1664 % 25)).take (c / 4 / 8 % (1 + c / 4 % 8)).toNat ++ (codeOf o :: (codes (1 + c / 4 % 8).toNat fun n => c / 4 / 64 + n * (1 + c / 4 / 1664 % 25)).drop (c / 4 / 8 % (1 + c / 4 % 8) + 1).toNat)
theorem flat_ones : ∀ {l : List Str} {cs : List Nat}, l = cs.map (fun c => (⟨#[c]⟩ : Str)) → (l.map fun s => s.cps.toList).flatten = cs
  | [], [], _ => rfl
  | _ :: _, [], h => by cases h
  | [], _ :: _, h => by cases h
  | a :: l, c :: cs, h => by
    rw [List.map_cons] at h
    injection h with h1 h2
    subst h1
    rw [List.map_cons, List.flatten_cons, flat_ones h2]
    rfl
theorem letters_codes (m : Nat) (g : Nat → Int) : letters m g = (codes m g).map fun c => (⟨#[c]⟩ : Str) := by
  rw [letters, codes, List.map_map]; rfl
theorem letters_get {m : Nat} {g : Nat → Int} {k : Nat} (h : k < m) : (letters m g).getD k "" = letter (g k) := by
  rw [List.getD_eq_getElem?_getD, letters, List.getElem?_map, List.getElem?_range h]; rfl
theorem word_codes (c o : Int) (h0 : 0 ≤ o) : (wordOf c o).cps.toList = codesOf c o := by
  unfold wordOf codesOf
  split
  · rw [app_cps, join_cps, letters1, take_letters, letter_cps]; rfl
  split
  · rw [join_cps, List.map_append, List.flatten_append, letters2, take_letters, drop_letters]
  split
  · rw [join_cps]
    refine flat_ones ?_
    have p0 := Int.emod_nonneg (o % 7 + 1 + o / 7) (show (8 : Int) ≠ 0 by decide)
    have p1 := Int.emod_lt_of_pos (o % 7 + 1 + o / 7) (show (0 : Int) < 8 by decide)
    rw [swap3, letters3, letters_get (by omega), letters_get (by omega), letters_codes, List.map_set, List.map_set]
    rw [show (((o % 7).toNat : Nat) : Int) = o % 7 by omega, show ((((o % 7 + 1 + o / 7) % 8).toNat : Nat) : Int) = (o % 7 + 1 + o / 7) % 8 by omega]
    rfl
  · rw [app_cps, app_cps, join_cps, join_cps, letters0, take_letters, drop_letters, letter_cps, List.append_assoc]; rfl
/-! #### way 3: which letters change places -/
def sw (o k : Nat) : Nat := if k = o % 7 then (o % 7 + 1 + o / 7) % 8 else if k = (o % 7 + 1 + o / 7) % 8 then o % 7 else k
theorem sw_ne : ∀ i : _root_.Fin 26, ∀ j : _root_.Fin 26, i ≠ j → ¬ (i.val = 21 ∧ j.val = 25) → ¬ (i.val = 25 ∧ j.val = 21) → ∃ k : _root_.Fin 8, sw i k ≠ sw j k := by decide +kernel
theorem sw_lt (o k : Nat) (h : k < 8) : sw o k < 8 := by unfold sw; split <;> (try split) <;> omega
theorem sw_ok : ∀ o : _root_.Fin 26, o.val % 7 ≠ (o.val % 7 + 1 + o.val / 7) % 8 := by decide +kernel
theorem swap_get {c : Int} {o k : Nat} (ho : o < 26) (hk : k < 8) : (((codes 8 fun n => c / 4 + 3 * n).set (((o : Int) % 7 + 1 + (o : Int) / 7) % 8).toNat (codeOf (c / 4 + 3 * ((o : Int) % 7)))).set ((o : Int) % 7).toNat (codeOf (c / 4 + 3 * (((o : Int) % 7 + 1 + (o : Int) / 7) % 8))))[k]? = some (codeOf (c / 4 + 3 * (sw o k : Nat))) := by
  have e1 : ((o : Int) % 7).toNat = o % 7 := by omega
  have e2 : (((o : Int) % 7 + 1 + (o : Int) / 7) % 8).toNat = (o % 7 + 1 + o / 7) % 8 := by omega
  have e3 : (o : Int) % 7 = ((o % 7 : Nat) : Int) := by omega
  have e4 : ((o : Int) % 7 + 1 + (o : Int) / 7) % 8 = (((o % 7 + 1 + o / 7) % 8 : Nat) : Int) := by omega
  rw [e1, e2, e4, e3]
  have ne := sw_ok ⟨o, ho⟩
  simp only at ne
  unfold sw
  by_cases h1 : k = o % 7
  · rw [if_pos h1, h1, List.getElem?_set_self (by rw [List.length_set, codes_len]; omega)]
  · rw [if_neg h1, List.getElem?_set_ne (fun z => h1 z.symm)]
    by_cases h2 : k = (o % 7 + 1 + o / 7) % 8
    · rw [if_pos h2, h2, List.getElem?_set_self (by rw [codes_len]; omega)]
    · rw [if_neg h2, List.getElem?_set_ne (fun z => h2 z.symm), codes_get hk]
/-- words of one cell are unlike -/
theorem word_ne {c : Int} {i j : Nat} (hi : i < 26) (hj : j < 26) (hne : i ≠ j) (h1 : ¬ (i = 21 ∧ j = 25)) (h2 : ¬ (i = 25 ∧ j = 21)) : wordOf c i ≠ wordOf c j := by
  intro e
  have e : codesOf c i = codesOf c j := by rw [← word_codes c i (by omega), ← word_codes c j (by omega), e]
  unfold codesOf at e
  by_cases w1 : c % 4 = 1
  · rw [if_pos w1, if_pos w1] at e
    injection e with a b
    have a := codeOf_inj a
    have b := congrArg List.length b
    rw [List.length_take, List.length_take, codes_len] at b
    omega
  rw [if_neg w1, if_neg w1] at e
  by_cases w2 : c % 4 = 2
  · rw [if_pos w2, if_pos w2] at e
    have hd : ∀ o : Nat, (((codes 8 fun n => c / 4 + n + 8 * ((o : Int) / 8)).drop ((o : Int) % 8).toNat) ++ ((codes 8 fun n => c / 4 + n + 8 * ((o : Int) / 8)).take ((o : Int) % 8).toNat))[0]? = some (codeOf (c / 4 + o)) := by
      intro o
      rw [List.getElem?_append_left (by rw [List.length_drop, codes_len]; omega), List.getElem?_drop, codes_get (by omega)]
      congr 2
      omega
    have a := hd i
    rw [e, hd j] at a
    have a := codeOf_inj (Option.some.inj a)
    omega
  rw [if_neg w2, if_neg w2] at e
  by_cases w3 : c % 4 = 3
  · rw [if_pos w3, if_pos w3] at e
    obtain ⟨k, hk⟩ := sw_ne ⟨i, hi⟩ ⟨j, hj⟩ (fun z => hne (congrArg (·.val) z)) h1 h2
    have a := swap_get (c := c) hi k.isLt
    rw [e, swap_get (c := c) hj k.isLt] at a
    have a := codeOf_inj (Option.some.inj a)
    have b1 := sw_lt i k k.isLt
    have b2 := sw_lt j k k.isLt
    apply hk
    simp only
    omega
  rw [if_neg w3, if_neg w3] at e
  have hd : ∀ o : Nat, ((codes (1 + c / 4 % 8).toNat fun n => c / 4 / 64 + n * (1 + c / 4 / 1664 % 25)).take (c / 4 / 8 % (1 + c / 4 % 8)).toNat ++ (codeOf o :: (codes (1 + c / 4 % 8).toNat fun n => c / 4 / 64 + n * (1 + c / 4 / 1664 % 25)).drop (c / 4 / 8 % (1 + c / 4 % 8) + 1).toNat))[(c / 4 / 8 % (1 + c / 4 % 8)).toNat]? = some (codeOf o) := by
    intro o
    have p0 := Int.emod_nonneg (c / 4 / 8) (show 1 + c / 4 % 8 ≠ 0 by omega)
    have p1 := Int.emod_lt_of_pos (c / 4 / 8) (show 0 < 1 + c / 4 % 8 by omega)
    have l : ((codes (1 + c / 4 % 8).toNat fun n => c / 4 / 64 + n * (1 + c / 4 / 1664 % 25)).take (c / 4 / 8 % (1 + c / 4 % 8)).toNat).length = (c / 4 / 8 % (1 + c / 4 % 8)).toNat := by rw [List.length_take, codes_len]; omega
    rw [List.getElem?_append_right (by rw [l]; exact Nat.le_refl _), l, Nat.sub_self]
    rfl
  have a := hd i
  rw [e, hd j] at a
  have a := codeOf_inj (Option.some.inj a)
  omega
theorem join_ones_len {l : List Str} (h : Lets1 l) : (Txt.join "" l).length = l.length := PySem.W.KT.join_ones l h
/-- words have one to eight letters -/
theorem word_len (c o : Int) (h0 : 0 ≤ o) : 1 ≤ (wordOf c o).length ∧ (wordOf c o).length ≤ 8 := by
  rw [str_len, word_codes c o h0]
  unfold codesOf
  split
  · rw [List.length_cons, List.length_take, codes_len]; omega
  split
  · rw [List.length_append, List.length_drop, List.length_take, codes_len]; omega
  split
  · rw [List.length_set, List.length_set, codes_len]; omega
  · have p0 := Int.emod_nonneg (c / 4 / 8) (show 1 + c / 4 % 8 ≠ 0 by omega)
    have p1 := Int.emod_lt_of_pos (c / 4 / 8) (show 0 < 1 + c / 4 % 8 by omega)
    rw [List.length_append, List.length_cons, List.length_take, List.length_drop, codes_len]
    omega
end CS

/-! CsDisp: {k: v, ..}. -/
namespace CS
open PySem L2
def mergeD (kvs more : List (Ky × DV)) : List (Ky × DV) := more.foldl (fun acc kv => putKD acc kv.1 kv.2) kvs
theorem VK'.merge {K : PySem.W.Frag} {F : Hp} : ∀ {ws : List (Ky × V)} {es : List (Ky × DV)} {vs : List (Ky × V)} {ds : List (Ky × DV)}, VK' K F ws es → VK' K F vs ds → VK' K F (mergeK vs ws) (mergeD ds es) := by
  intro ws es vs ds h
  induction h generalizing vs ds with
  | nil => exact fun g => g
  | cons a r ih => exact fun g => ih (g.put a)
section
variable {X : Cx} {W : WX} {ds : Slots} {M : Mem} {pos : Pos} {R : DV → Mem → Prop} {Xp : Value → Mem → Prop}
def trsOf (X : Cx) : List (Option Expr) → List Expr → List (TE × TE)
  | some k :: ks, v :: vs => (tE X k, tE X v) :: trsOf X ks vs
  | _, _ => []
theorem pps_of : ∀ {ks : List (Option Expr)} {vs : List Expr}, ks.all (·.isSome) = true → ks.length = vs.length → PPs X pos ks vs (trsOf X ks vs)
  | [], [], _, _ => pps_nil
  | some k :: ks, v :: vs, h, hl => pps_cons (pe_t X k) (pe_t X v) (pps_of (by simpa using h) (by simpa using hl))
  | none :: _, _, h, _ => by simp at h
  | [], _ :: _, _, hl => by simp at hl
  | some _ :: _, [], _, hl => by simp at hl
/-- the pairs from the left -/
def HP (X : Cx) (W : WX) (ds : Slots) (Xp : Value → Mem → Prop) : List (Option Expr) → List Expr → Mem → (List (Ky × DV) → Mem → Prop) → Prop
  | some k :: ks, v :: vs, M, R => HE X W k ds M (fun kd M1 => HE X W v ds M1 (fun vd M2 => ∃ key, KD kd key ∧ HP X W ds Xp ks vs M2 fun r M3 => R ((key, vd) :: r) M3) Xp) Xp
  | [], [], M, R => R [] M
  | _, _, _, _ => False
theorem hp_run {S : Addr → Prop} {F0 H0 : Hp} {σ : L2.St} (n : X.N = ds.map (·.1)) : ∀ {ks : List (Option Expr)} {vs : List Expr} {M : Mem} {R : List (Ky × DV) → Mem → Prop} {F H : Hp} {Q : List (V × V) → Hp → Prop}, HP X W ds Xp ks vs M R → In X.K S F0 H0 F H M σ ds →
    (∀ (ws : List (Ky × V)) F' H' M' kvs, Same F F' → In X.K S F0 H0 F' H' M' σ ds → VK' X.K F' ws kvs → R kvs M' → Q (ws.map fun kv => (kV kv.1, kv.2)) H') → (∀ cls F' H' M', Same F F' → In X.K S F0 H0 F' H' M' σ ds → Xp cls M' → W cls none σ H') → tPairs (trsOf X ks vs) σ H Q
  | some k :: ks, v :: vs, M, R, F, H, Q, h, I, q, x =>
    h n S F0 H0 F H σ I _ (fun u F1 H1 M1 du s1 I1 o1 g1 => g1 n S F0 H0 F1 H1 σ I1 _ (fun w F2 H2 M2 dw s2 I2 o2 g2 => by
      obtain ⟨key, hk, g⟩ := g2
      obtain rfl := hk.v (o1.mono s2)
      exact hp_run n g I2 (fun ws F3 H3 M3 kvs s3 I3 o3 g3 => q ((key, w) :: ws) F3 H3 M3 ((key, dw) :: kvs) ((s1.trans s2).trans s3) I3 (.cons (o2.mono s3) o3) g3) fun cls F3 H3 M3 s3 I3 g3 => x cls F3 H3 M3 ((s1.trans s2).trans s3) I3 g3)
      fun cls F2 H2 M2 s2 I2 g2 => x cls F2 H2 M2 (s1.trans s2) I2 g2) x
  | [], [], M, R, F, H, Q, h, I, q, x => q [] F H M [] (.refl _) I .nil h
  | none :: _, _, _, _, _, _, _, h, _, _, _ => h.elim
  | [], _ :: _, _, _, _, _, _, h, _, _, _ => h.elim
  | some _ :: _, [], _, _, _, _, _, h, _, _, _ => h.elim
def DispP (M : Mem) (p : Addr) (kvs : List (Ky × DV)) (R : DV → Mem → Prop) : Prop := ∃ j, M[j]? = some (p, .dct []) ∧ kvs.length ≤ 15 ∧ R (.m p) (M.set j (p, .dct (mergeD [] kvs)))
theorem he_disp {keys : List (Option Expr)} {values : List Expr} (hall : keys.all (·.isSome) = true) (hl : keys.length = values.length) (h0 : keys ≠ []) (h15 : keys.length ≤ 15)
    (h : ∀ p, HP X W ds Xp keys values ((p, .dct []) :: M) fun kvs M1 => DispP M1 p kvs R) : HE X W (.Dict keys values pos) ds M R Xp := he_of (pe_disp (pps_of hall hl) hall hl h0 h15) fun n S F0 H0 F H σ I Q q x => fun p hp =>
  hp_run n (h p) (I.newC hp (.dct .nil)) (fun ws F' H' M' kvs s' I' o' g' => by
    obtain ⟨j, hj, hk, g⟩ := g'
    obtain ⟨_, u, hu, ou⟩ := I'.mem _ (List.mem_of_getElem? hj)
    cases ou with
    | dct r =>
      cases r
      exact ⟨hu, ws, rfl, by rw [o'.len]; exact hk, q (.ref p) F' _ _ (.m p) s' (I'.setM hj (.dct (o'.merge .nil))) rfl g⟩) x
/-- keys written as texts -/
class Tx (keys : List (Option Expr)) (values : List Expr) : Prop where
  a : keys.all (·.isSome) = true
  l : keys.length = values.length
instance : Tx [] [] := ⟨rfl, rfl⟩
instance {k v : Expr} {ks : List (Option Expr)} {vs : List Expr} [t : Tx ks vs] : Tx (some k :: ks) (v :: vs) := ⟨by rw [List.all_cons, t.a]; rfl, congrArg (· + 1) t.l⟩
class FewK (keys : List (Option Expr)) (n : Nat) : Prop where
  h : keys.length ≤ n
instance {n : Nat} : FewK [] n := ⟨Nat.zero_le _⟩
instance {k : Option Expr} {ks : List (Option Expr)} {n : Nat} [f : FewK ks n] : FewK (k :: ks) (n + 1) := ⟨Nat.succ_le_succ f.h⟩
instance {k : Option Expr} {ks : List (Option Expr)} {vs : List Expr} [t : Tx (k :: ks) vs] [f : FewK (k :: ks) 15] : Step (HE X W (.Dict (k :: ks) vs pos) ds M R Xp) (∀ p, HP X W ds Xp (k :: ks) vs ((p, .dct []) :: M) fun kvs M1 => DispP M1 p kvs R) :=
  ⟨fun h => he_disp t.a t.l (fun z => by cases z) f.h h⟩
instance {s : Str} {j : Nat} {p2 : Pos} {ks : List (Option Expr)} {v : Expr} {vs : List Expr} {R : List (Ky × DV) → Mem → Prop} : Step (HP X W ds Xp (some (.Constant (.str s) j p2) :: ks) (v :: vs) M R) (HE X W v ds M (fun vd M2 => HP X W ds Xp ks vs M2 fun r M3 => R ((.inr s, vd) :: r) M3) Xp) :=
  ⟨fun h => he_str (he_imp h fun vd M2 g => ⟨.inr s, .str s, g⟩)⟩
instance {R : List (Ky × DV) → Mem → Prop} : Step (HP X W ds Xp [] [] M R) (R [] M) := ⟨fun h => h⟩
end
instance {M : Mem} {p : Addr} {j : Nat} {kvs : List (Ky × DV)} {R : DV → Mem → Prop} [a : AtM M p j (.dct [])] : Step (DispP M p kvs R) (kvs.length ≤ 15 ∧ SetP M j (p, .dct (mergeD [] kvs)) fun M' => R (.m p) M') := ⟨fun h => ⟨j, a.h, h.1, h.2⟩⟩
/-- a dict put together of keys that are all unlike -/
theorem mergeD_nd : ∀ {more acc : List (Ky × DV)}, ((acc ++ more).map (·.1)).Nodup → mergeD acc more = acc ++ more
  | [], acc, _ => by simp [mergeD]
  | kv :: more, acc, h => by
    have e : putKD acc kv.1 kv.2 = acc ++ [kv] := by
      unfold putKD
      rw [if_neg]
      intro z
      rw [List.any_eq_true] at z
      obtain ⟨q, hq, e⟩ := z
      rw [List.map_append, List.map_cons, List.nodup_append] at h
      exact h.2.2 _ (List.mem_map.mpr ⟨q, hq, rfl⟩) kv.1 (by simp) (of_decide_eq_true e)
    show mergeD (putKD acc kv.1 kv.2) more = _
    rw [e, mergeD_nd (by rw [List.append_assoc]; exact h), List.append_assoc]
    rfl
theorem valD_hit {β : Type} {k : Ky} {v : β} {r : List (Ky × β)} : valD ((k, v) :: r) k = some v := by unfold valD; rw [if_pos rfl]
theorem valD_next {β : Type} {k k' : Ky} {v : β} {r : List (Ky × β)} (h : k ≠ k') : valD ((k, v) :: r) k' = valD r k' := by rw [valD, if_neg h]
theorem inr_ne {s t : Str} [n : SNe s t] : (Sum.inr s : Ky) ≠ .inr t := fun e => n.h (Sum.inr.inj e)
/-! ### from the end -/
theorem atI_end {α : Type} (xs : List α) (k : Nat) (h1 : 0 < k) (h2 : k ≤ xs.length) : atI xs (-(k : Int)) = xs[xs.length - k]? := by
  unfold atI ixN
  rw [if_neg (by omega), if_pos (by omega), show (-(k : Int) + (xs.length : Int)).toNat = xs.length - k by omega]
  rfl
theorem atI_pos {α : Type} {xs : List α} {i : Int} (h0 : 0 ≤ i) (h : i.toNat < xs.length) : atI xs i = some xs[i.toNat] := by
  unfold atI ixN
  rw [if_pos h0, if_pos (by omega)]
  exact List.getElem?_eq_getElem h
theorem sIx_end (n d k : Nat) (h : 0 < k) : HT.sIx n d (some (-(k : Int))) = n - k := by
  show (if (-(k : Int)) < 0 then (-(k : Int) + (n : Int)).toNat else _) = _
  rw [if_pos (by omega)]
  omega
class EndC (xs : List Dat) (i : Int) (d : outParam Dat) : Prop where
  h : atI xs i = some d
instance {p : List Dat} {a : Dat} : EndC (p ++ [a]) (-1) a := ⟨by rw [show (-1 : Int) = -((1 : Nat) : Int) by rfl, atI_end _ 1 (by decide) (by simp)]; simp⟩
instance {p : List Dat} {a b : Dat} : EndC (p ++ [b, a]) (-1) a := ⟨by rw [show (-1 : Int) = -((1 : Nat) : Int) by rfl, atI_end _ 1 (by decide) (by simp)]; simp⟩
instance {p : List Dat} {a b c : Dat} : EndC (p ++ [c, b, a]) (-1) a := ⟨by rw [show (-1 : Int) = -((1 : Nat) : Int) by rfl, atI_end _ 1 (by decide) (by simp)]; simp⟩
instance {p : List Dat} {a b : Dat} : EndC (p ++ [b, a]) (-2) b := ⟨by rw [show (-2 : Int) = -((2 : Nat) : Int) by rfl, atI_end _ 2 (by decide) (by simp)]; simp⟩
instance {p : List Dat} {a b c : Dat} : EndC (p ++ [c, b, a]) (-2) b := ⟨by rw [show (-2 : Int) = -((2 : Nat) : Int) by rfl, atI_end _ 2 (by decide) (by simp)]; simp⟩
instance {p : List Dat} {a b c : Dat} : EndC (p ++ [c, b, a]) (-3) c := ⟨by rw [show (-3 : Int) = -((3 : Nat) : Int) by rfl, atI_end _ 3 (by decide) (by simp)]; simp⟩
instance {M : Mem} {xs : List Dat} {i : Int} {d : Dat} {k : DV → Prop} [e : EndC xs i d] : Step (IxP M (.d (.lst xs)) (.d (.int i)) k) (k (.d d)) := ⟨fun h => ⟨_, _, rfl, .lst e.h, h⟩⟩
theorem cutD_end (xs : List Dat) (k : Nat) (h : 0 < k) : cutD xs (some (-(k : Int))) none = xs.drop (xs.length - k) := by
  unfold cutD
  rw [sIx_end _ _ _ h, HT.sIx_none, List.take_of_length_le (by rw [List.length_drop]; exact Nat.le_refl _)]
theorem cutD_but (xs : List Dat) (k : Nat) (h : 0 < k) : cutD xs none (some (-(k : Int))) = xs.take (xs.length - k) := by
  unfold cutD
  rw [sIx_end _ _ _ h, HT.sIx_none, List.drop_zero, Nat.sub_zero]
class EndS (xs : List Dat) (i : Int) (a b : outParam (List Dat)) : Prop where
  h1 : cutD xs (some i) none = b
  h2 : cutD xs none (some i) = a
theorem endS_of {a b : List Dat} {k : Nat} (h : 0 < k) (e : b.length = k) : EndS (a ++ b) (-(k : Int)) a b :=
  ⟨by rw [cutD_end _ _ h, List.length_append, e, Nat.add_sub_cancel, List.drop_left], by rw [cutD_but _ _ h, List.length_append, e, Nat.add_sub_cancel, List.take_left]⟩
instance {p : List Dat} {a b : Dat} : EndS (p ++ [b, a]) (-2) p [b, a] := endS_of (k := 2) (by decide) rfl
instance {p : List Dat} {a b c : Dat} : EndS (p ++ [c, b, a]) (-3) p [c, b, a] := endS_of (k := 3) (by decide) rfl
instance {p : List Dat} {a b c : Dat} : EndS (p ++ [c, b, a]) (-2) (p ++ [c]) [b, a] := by
  have h := endS_of (a := p ++ [c]) (b := [b, a]) (k := 2) (by decide) rfl
  rw [List.append_assoc] at h
  exact h
instance {M : Mem} {xs a b : List Dat} {i : Int} {k : Dat → Prop} [e : EndS xs i a b] : Step (SldP M (.d (.lst xs)) (some i) none k) (k (.lst b)) := ⟨fun h => ⟨_, .lst .dat, by rw [e.h1]; exact h⟩⟩
instance {M : Mem} {xs a b : List Dat} {i : Int} {k : Dat → Prop} [e : EndS xs i a b] : Step (SldP M (.d (.lst xs)) none (some i) k) (k (.lst a)) := ⟨fun h => ⟨_, .lst .dat, by rw [e.h2]; exact h⟩⟩
theorem ix_dctM {M : Mem} {p : Addr} {j : Nat} {kvs : List (Ky × DV)} {s : Str} {dv : DV} {k : DV → Prop} (hM : M[j]? = some (p, .dct kvs)) (h : valD kvs (.inr s) = some dv) (q : k dv) : IxA M (.m p) (.d (.str s)) k := .inr ⟨kvs, .inr s, dv, .mu hM, .str s, h, q⟩
/-! ### how many: texts too -/
theorem CallR.or {X : Cx} {v : Value} {r r' : List V → Hp → VK → Prop} (h : CallR X v r) (h' : CallR X v r') : CallR X v (fun xs H Q => r xs H Q ∨ r' xs H Q) := by
  intro pins s σ H xs us Q I rx q
  exact q.elim (fun q => h pins s σ H xs us Q I rx q) fun q => h' pins s σ H xs us Q I rx q
theorem CD.or {K : PySem.W.Frag} {r r' : List V → Hp → VK → Prop} {Rc Rc' : List DV → Mem → (DV → Mem → Prop) → Prop} (h : CD K r Rc) (h' : CD K r' Rc') : CD K (fun xs H Q => r xs H Q ∨ r' xs H Q) (fun as M R => Rc as M R ∨ Rc' as M R) :=
  fun S F0 H0 F H M σ ds as vs R Q I o g q => g.elim (fun g => .inl (h S F0 H0 F H M σ ds as vs R Q I o g q)) fun g => .inr (h' S F0 H0 F H M σ ds as vs R Q I o g q)
theorem cd_lenS {K : PySem.W.Frag} : CD K (fun xs H Q => ∃ z, xs = [V.str z] ∧ z.length ≤ sizeLine ∧ Q (.int z.length) H) (fun as M R => ∃ s : Str, as = [.d (.str s)] ∧ s.length ≤ sizeLine ∧ R (.d (.int s.length)) M) := by
  rintro S F0 H0 F H M σ ds as vs R Q I o ⟨s, rfl, hl, g⟩ q
  cases o with
  | cons o1 o2 =>
    cases o2
    cases o1
    exact ⟨s, rfl, hl, q _ F H M _ (.refl _) I (VOk.dat (.int _)) g⟩
section
variable {X : Cx} {W : WX} {e : Expr} {ds : Slots} {M : Mem} {pos p : Pos} {R : DV → Mem → Prop} {Xp : Value → Mem → Prop} {V' L G B : List Str}
def LenQ (M : Mem) (as : List DV) (k : Nat → Prop) : Prop := LenP M as k ∨ ∃ s : Str, as = [.d (.str s)] ∧ s.length ≤ sizeLine ∧ k s.length
instance (priority := high) [k : Kc X V' L G B] [m : MmC B "len"] [s : NS e] : Step (HE X W (.Call (.Name "len" p) [e] [] pos) ds M R Xp) (HA X W [e] ds M (fun as M1 => LenQ M1 as fun n => R (.d (.int n)) M1) Xp) :=
  ⟨fun h => he_B (call_len_seq.or call_len_str) (cd_len.or cd_lenS) k.k m.h PySem.boot_len h (s.h [] X.env) rfl⟩
instance {xs : List Dat} {k : Nat → Prop} : Step (LenQ M [.d (.lst xs)] k) (LenP M [.d (.lst xs)] k) := ⟨.inl⟩
instance {xs : List Dat} {k : Nat → Prop} : Step (LenQ M [.d (.tup xs)] k) (LenP M [.d (.tup xs)] k) := ⟨.inl⟩
instance {xs : List Int} {k : Nat → Prop} : Step (LenQ M [.d (.scr xs)] k) (LenP M [.d (.scr xs)] k) := ⟨.inl⟩
instance {q : Addr} {k : Nat → Prop} : Step (LenQ M [.m q] k) (LenP M [.m q] k) := ⟨.inl⟩
instance {q : Addr} {i : Nat} {xs : List DV} {k : Nat → Prop} [a : AtM M q i (.lst xs)] : Step (LenP M [.m q] k) (k xs.length) := ⟨fun h => ⟨_, _, rfl, .mu a.h, h⟩⟩
instance {s : Str} {k : Nat → Prop} : Step (LenQ M [.d (.str s)] k) (s.length ≤ sizeLine ∧ k s.length) := ⟨fun h => .inr ⟨s, rfl, h⟩⟩
end
/-! ### is not None -/
def nonB : Dat → Bool
  | .non => true
  | _ => false
def dNN : DV → DV → Mem → (DV → Mem → Prop) → Prop := fun a b M R => ∃ x, a = .d x ∧ b = .d .non ∧ R (.d (.bl (!nonB x))) M
theorem od_notN {K : PySem.W.Frag} : OD K (fun x y H Q => y = V.non ∧ Q (.bl (!decide (x = V.non))) H) dNN := by
  rintro S F0 H0 F H M σ ds a b v w R Q I oa ob ⟨x, rfl, rfl, h⟩ q
  cases ob
  refine ⟨rfl, q _ F H M _ (.refl _) I (VOk.dat (.bl _)) ?_⟩
  cases oa <;> exact h
section
variable {X : Cx} {W : WX} {a : Expr} {ds : Slots} {M : Mem} {pos p2 : Pos} {R : DV → Mem → Prop} {Xp : Value → Mem → Prop}
def D1 (x : DV) (k : Dat → Prop) : Prop := ∃ d, x = .d d ∧ k d
instance {d : Dat} {k : Dat → Prop} : Step (D1 (.d d) k) (k d) := ⟨fun h => ⟨d, rfl, h⟩⟩
theorem ht_notN {j : Nat} {R : Bool → Mem → Prop} (h : HE X W a ds M (fun x M1 => D1 x fun d => R (!nonB d) M1) Xp) : HT X W (.Compare a [.IsNot] [.Constant .none j p2] pos) ds M R Xp :=
  ht_cmp op_notN od_notN (he_imp h fun x M1 ⟨d, e, g⟩ => he_none ⟨d, e, rfl, _, rfl, g⟩) (nomark _)
theorem he_notN {j : Nat} (h : HE X W a ds M (fun x M1 => D1 x fun d => R (.d (.bl (!nonB d))) M1) Xp) : HE X W (.Compare a [.IsNot] [.Constant .none j p2] pos) ds M R Xp :=
  he_cmp op_notN od_notN (he_imp h fun x M1 ⟨d, e, g⟩ => he_none ⟨d, e, rfl, g⟩) (nomark _)
instance {j : Nat} {R : Bool → Mem → Prop} : Step (HT X W (.Compare a [.IsNot] [.Constant .none j p2] pos) ds M R Xp) (HE X W a ds M (fun x M1 => D1 x fun d => R (!nonB d) M1) Xp) := ⟨ht_notN⟩
instance {j : Nat} : Step (HE X W (.Compare a [.IsNot] [.Constant .none j p2] pos) ds M R Xp) (HE X W a ds M (fun x M1 => D1 x fun d => R (.d (.bl (!nonB d))) M1) Xp) := ⟨he_notN⟩
instance {j : Nat} : Step (HE X W (.Compare a [.Is] [.Constant .none j p2] pos) ds M R Xp) (HE X W a ds M (fun x M1 => D1 x fun d => R (.d (.bl (nonB d))) M1) Xp) :=
  ⟨fun h => he_isN (he_imp h fun x M1 ⟨d, e, g⟩ => ⟨d, e, by cases d <;> exact g⟩)⟩
class NonC (d : Dat) (b : outParam Bool) : Prop where
  h : nonB d = b
instance : NonC .non true := ⟨rfl⟩
instance {i : Int} : NonC (.int i) false := ⟨rfl⟩
instance {i : Str} : NonC (.str i) false := ⟨rfl⟩
instance {i : Bool} : NonC (.bl i) false := ⟨rfl⟩
instance {i : List Dat} : NonC (.tup i) false := ⟨rfl⟩
instance {i : List Dat} : NonC (.lst i) false := ⟨rfl⟩
instance {d : Dat} {b : Bool} {A B : Prop} [n : NonC d b] : Step (if (!nonB d) = true then A else B) (if (!b) = true then A else B) := ⟨fun h => by rw [n.h]; exact h⟩
instance {d : Dat} {b : Bool} {A B : Prop} [n : NonC d b] : Step (if nonB d = true then A else B) (if b = true then A else B) := ⟨fun h => by rw [n.h]; exact h⟩
end
/-! ### programs are flat enough to be held side by side -/
theorem fits_strs (ps : List Str) (n : Nat) : fitsL (ps.map .str) n = true := fitsL_all fun x hx => by
  obtain ⟨s, _, rfl⟩ := List.mem_map.mp hx
  rfl
theorem fits_nums (vs : List Int) (n : Nat) : fitsL (vs.map .int) n = true := fitsL_all fun x hx => by
  obtain ⟨s, _, rfl⟩ := List.mem_map.mp hx
  rfl
theorem fits_ints (vs : List Int) : fits (.lst (vs.map .int)) 64 = true := by
  rw [fits, fits_nums]; rfl
theorem fits_tup {xs : List Dat} {n : Nat} (h : fitsL xs n = true) : fits (.tup xs) (n + 1) = true := by
  rw [fits, Nat.add_sub_cancel, h]; rfl
theorem fits_lst {xs : List Dat} {n : Nat} (h : fitsL xs n = true) : fits (.lst xs) (n + 1) = true := by
  rw [fits, Nat.add_sub_cancel, h]; rfl
mutual
theorem fits_tree (cs : List (Str × Nat)) : ∀ (t : Tree) (ns : List Str) (l n : Nat), need cs ns l t = none → 2 * (13 - l) ≤ n → fits t.dat n = true
  | .num i, ns, l, n, h, hn => by
    rw [need] at h
    split at h
    · cases h
    obtain ⟨m, rfl⟩ : ∃ m, n = m + 1 := ⟨n - 1, by omega⟩
    rw [Tree.dat]
    exact fits_tup (by simp [fitsL, fits])
  | .name x, ns, l, n, h, hn => by
    rw [need] at h
    split at h
    · cases h
    obtain ⟨m, rfl⟩ : ∃ m, n = m + 1 := ⟨n - 1, by omega⟩
    rw [Tree.dat]
    exact fits_tup (by simp [fitsL, fits])
  | .deed w a b, ns, l, n, h, hn => by
    rw [need] at h
    split at h
    · cases h
    obtain ⟨h1, h2⟩ := or_none h
    obtain ⟨m, rfl⟩ : ∃ m, n = m + 1 := ⟨n - 1, by omega⟩
    rw [Tree.dat]
    exact fits_tup (by simp only [fitsL, fits, fits_tree cs a ns (l + 1) m h1 (by omega), fits_tree cs b ns (l + 1) m h2 (by omega), Bool.and_true])
  | .choose a b c, ns, l, n, h, hn => by
    rw [need] at h
    split at h
    · cases h
    obtain ⟨h, h3⟩ := or_none h
    obtain ⟨h1, h2⟩ := or_none h
    obtain ⟨m, rfl⟩ : ∃ m, n = m + 1 := ⟨n - 1, by omega⟩
    rw [Tree.dat]
    exact fits_tup (by simp only [fitsL, fits, fits_tree cs a ns (l + 1) m h1 (by omega), fits_tree cs b ns (l + 1) m h2 (by omega), fits_tree cs c ns (l + 1) m h3 (by omega), Bool.and_true])
  | .dlet x a b, ns, l, n, h, hn => by
    rw [need] at h
    split at h
    · cases h
    obtain ⟨h1, h2⟩ := or_none h
    obtain ⟨m, rfl⟩ : ∃ m, n = m + 1 := ⟨n - 1, by omega⟩
    rw [Tree.dat]
    exact fits_tup (by simp only [fitsL, fits, fits_tree cs a ns (l + 1) m h1 (by omega), fits_tree cs b _ (l + 1) m h2 (by omega), Bool.and_true])
  | .call f ts, ns, l, n, h, hn => by
    rw [need] at h
    split at h
    · cases h
    obtain ⟨m, rfl⟩ : ∃ m, n = m + 2 := ⟨n - 2, by omega⟩
    have hl : needL cs ns (l + 1) ts = none := by
      split at h
      · cases h
      · split at h
        · exact h
        · cases h
    rw [Tree.dat]
    exact fits_tup (by rw [fitsL, fitsL, fitsL, fits_tup (fits_trees cs ts ns (l + 1) m hl (by omega))]; simp [fits, fitsL])
theorem fits_trees (cs : List (Str × Nat)) : ∀ (ts : List Tree) (ns : List Str) (l n : Nat), needL cs ns l ts = none → 2 * (13 - l) ≤ n → fitsL (Tree.dats ts) n = true
  | [], ns, l, n, h, hn => by rw [Tree.dats, fitsL]
  | t :: ts, ns, l, n, h, hn => by
    rw [needL] at h
    obtain ⟨h1, h2⟩ := or_none h
    rw [Tree.dats, fitsL, fits_tree cs t ns l n h1 hn, fits_trees cs ts ns l n h2 hn]; rfl
end
theorem fits_prog {fs : List Fn} (h : ∀ f ∈ fs, ∃ cs ns, need cs ns 1 f.body = none) : fits (.lst (fs.map Fn.dat)) 64 = true := by
  refine fits_lst (n := 63) (fitsL_all fun x hx => ?_)
  obtain ⟨f, hf, rfl⟩ := List.mem_map.mp hx
  obtain ⟨cs, ns, hn⟩ := h f hf
  refine fits_tup (n := 62) ?_
  rw [fitsL, fitsL, fitsL, fitsL, fits_tree cs f.body ns 1 62 hn (by decide), fits_tup (n := 61) (fits_strs f.ps 61)]
  rfl
theorem hss_imp {X : Cx} {W : WX} {st : List Stmt} {ds : Slots} {M : Mem} {pn pn' : Slots → Mem → Prop} {pr : DV → Mem → Prop} {pb pc : Slots → Mem → Prop} {px : Value → Slots → Mem → Prop} (i : ∀ ds M, pn ds M → pn' ds M) (h : HSs X W st ds M ⟨pn, pr, pb, pc, px⟩) : HSs X W st ds M ⟨pn', pr, pb, pc, px⟩ :=
  fun n S F0 H0 F H σ D I g1 g2 g3 g4 g5 => h n S F0 H0 F H σ D I (fun F' H' M' σ' es s' I' n' q => g1 F' H' M' σ' es s' I' n' (i _ _ q)) g2 g3 g4 g5
end CS

/-! CsMac: how a machine stands among things that may change; what its methods promise. -/
namespace CS
open PySem L2
def Row.dat : Row → Dat
  | .push i => .tup [.str "push", .int i]
  | .load s => .tup [.str "load", .int s]
  | .keep s => .tup [.str "keep", .int s]
  | .dod w => .tup [.str "do", .str w.str]
  | .unless r => .tup [.str "unless", .int r]
  | .skip r => .tup [.str "skip", .int r]
  | .call r c room => .tup [.str "call", .int r, .int c, .int room]
  | .back => .tup [.str "back"]
def rowsD (rows : List Row) : Dat := .lst (rows.map Row.dat)
abbrev intsV (xs : List Int) : List DV := (xs.map Dat.int).map DV.d
abbrev machF (rows : Dat) (fuel : Int) (made at_ : Nat) (sk fk : Addr) : List (Str × DV) := [("rows", .d rows), ("fuel", .d (.int fuel)), ("made", .d (.int made)), ("at", .d (.int at_)), ("stack", .m sk), ("frames", .m fk)]
def cellsM : List (Addr × Addr) → List (Nat × List Int) → Mem
  | c :: cs, f :: fr => (c.1, .tup [.d (.int f.1), .m c.2]) :: (c.2, .lst (intsV f.2)) :: cellsM cs fr
  | _, _ => []
abbrev framesV (cells : List (Addr × Addr)) : List DV := (cells.map fun c => DV.m c.1).reverse
/-- a machine, its stack (top first in s.st) and its frames (the newest first in s.fr) -/
abbrev machM (C dx q sk fk : Addr) (rows : Dat) (fuel : Int) (cells : List (Addr × Addr)) (s : MS) (L : Mem) : Mem :=
  (q, .ins C dx (machF rows fuel s.made s.at_ sk fk)) :: (sk, .lst (intsV s.st.reverse)) :: (fk, .lst (framesV cells)) :: (cellsM cells s.fr ++ L)
structure MsOk (cells : List (Addr × Addr)) (s : MS) : Prop where
  len : cells.length = s.fr.length
  st : ∀ v ∈ s.st, Small v
  fr : ∀ f ∈ s.fr, ∀ v ∈ f.2, Small v
  few : s.fr.length ≤ 20
def RowsOk (rows : List Row) : Prop := ∀ i, Row.push i ∈ rows → Small i
/-- what is promised of a step that comes to e -/
def StepP (C : Addr) (cs : Ex → Addr) (rows : Dat) (fuel : Int) (q dx : Addr) (L : Mem) (rt : DV → Mem → Prop) (ex : Value → Mem → Prop) (made : Nat) : Except Ex MS → Prop
  | .ok s' => ∀ sk fk cells, MsOk cells s' → rt (.d .non) (machM C dx q sk fk rows fuel cells s' L)
  | .error e => ∀ (at_ : Nat) (sk fk : Addr), ex (.ref (cs e)) ((q, .ins C dx (machF rows fuel made at_ sk fk)) :: L)
def PEnter (C : Addr) (cs : Ex → Addr) (rows : Dat) (fuel : Int) : PreG := fun M as rt ex => Fr M fun M0 => ∃ (q dx sk fk : Addr) (cells : List (Addr × Addr)) (s : MS) (row room : Nat) (vs : List Int) (L : Mem), as = [.m q, .d (.int row), .d (.lst (vs.map .int)), .d (.int room)] ∧ M0 = machM C dx q sk fk rows fuel cells s L ∧
  MsOk cells s ∧ (∀ v ∈ vs, Small v) ∧ room ≤ 100000 ∧ vs.length ≤ 1000000 ∧ StepP C cs rows fuel q dx L rt ex s.made (enterM fuel row vs room s)
def PCallR (C : Addr) (cs : Ex → Addr) (rows : Dat) (fuel : Int) : PreG := fun M as rt ex => Fr M fun M0 => ∃ (q dx sk fk : Addr) (cells : List (Addr × Addr)) (s : MS) (r c room : Nat) (L : Mem), as = [.m q, .d (Row.call r c room).dat] ∧ M0 = machM C dx q sk fk rows fuel cells s L ∧
  MsOk cells s ∧ room ≤ 100000 ∧ s.st.length ≤ 1000000 ∧ c ≤ s.st.length ∧ StepP C cs rows fuel q dx L rt ex s.made (enterM fuel r (s.st.take c).reverse room ⟨s.at_, s.st.drop c, s.fr, s.made⟩)
def PStep (C : Addr) (cs : Ex → Addr) (rows : List Row) (fuel : Int) : PreG := fun M as rt ex => Fr M fun M0 => ∃ (q dx sk fk : Addr) (cells : List (Addr × Addr)) (s : MS) (L : Mem) (r : Except Ex MS), as = [.m q] ∧ M0 = machM C dx q sk fk (rowsD rows) fuel cells s L ∧
  MsOk cells s ∧ RowsOk rows ∧ s.st.length ≤ 300000 ∧ mstep rows fuel s = some r ∧ StepP C cs (rowsD rows) fuel q dx L rt ex s.made r
end CS

/-! CsKeys: for k in a dict. -/
namespace CS
open PySem L2
def keyD : Ky → Dat
  | .inl i => .int i
  | .inr s => .str s
theorem keyD_rp {K : PySem.W.Frag} {F : Hp} : ∀ k : Ky, Rp K F (kV k) (keyD k)
  | .inl i => .int i
  | .inr s => .str s
theorem RpK.len {K : PySem.W.Frag} {F : Hp} : ∀ {vs : List (Ky × V)} {ds : List (Ky × Dat)}, RpK K F vs ds → vs.map (·.1) = ds.map (·.1)
  | _, _, .nil => rfl
  | _, _, .cons _ r => by rw [List.map_cons, List.map_cons, RpK.len r]
theorem itd_keys {K : PySem.W.Frag} {F : Hp} {a : Addr} {o : Obj} {vs : List (Ky × V)} {ds : List (Ky × Dat)} (hF : F a = some (.frz o (.dK vs))) (r : RpK K F vs ds) : ItD K (Itk a o vs) F (ds.map fun kv => keyD kv.1) := fun F' H' s1 s2 i => by
  have hH : H' a = some (.frz o (.dK vs)) := s2 _ _ (s1 _ _ hF)
  have el : ds.length = vs.length := by have := congrArg List.length r.len; simpa using this.symm
  rw [List.length_map, el]
  refine ⟨fun h => ⟨hH, h⟩, fun h => ⟨hH, Nat.le_of_eq h⟩, fun v H2 y hi => ?_⟩
  obtain ⟨rfl, k, w, hk, rfl⟩ := y
  refine ⟨F', keyD k, .refl s2, ?_, keyD_rp k⟩
  have e : (vs.map (·.1))[i]? = some k := by rw [List.getElem?_map, hk]; rfl
  rw [r.len, List.getElem?_map] at e
  rw [List.getElem?_map]
  obtain ⟨kv, h1, h2⟩ := Option.map_eq_some_iff.mp e
  rw [h1, ← h2]
  rfl
section
variable {X : Cx} {W : WX} {tg iter : Expr} {ds : Slots} {M : Mem} {Xp : Value → Mem → Prop}
theorem hi_dct {k : List Dat → Mem → Prop} (h : HE X W iter ds M (fun dv M1 => ∃ kvs, dv = .d (.dct kvs) ∧ k (kvs.map fun kv => keyD kv.1) M1) Xp) : HI X W tg iter ds M k Xp := fun n => ⟨_, pi_keys (pe_t X iter), fun S F0 H0 F H σ I Q q x =>
  h n S F0 H0 F H σ I _ (fun v F1 H1 M1 dv s1 I1 o1 g1 => by
    obtain ⟨xs, rfl, g⟩ := g1
    cases o1 with
    | dct hF r => exact ⟨_, _, rfl, .inl ⟨_, I1.fh _ _ hF, q _ _ F1 H1 M1 s1 I1 (itd_keys hF r) g⟩⟩) x⟩
end
/-! ### a run -/
def RunsTo (rows : List Row) (fuel : Int) (a room : Nat) (vs : List Int) (r : Rs) : Prop := ((0 : Int) = fuel ∧ r = .exc .dry 0) ∨ (¬ (0 : Int) = fuel ∧ ∃ n, Ends rows fuel n ⟨a, [], [(0, vs ++ List.replicate (room - vs.length) 0)], 1⟩ r)
def PInitM (C : Addr) : PreG := fun M as rt ex => ∃ (q dx : Addr) (L : Mem) (rows : Dat) (fuel : Int), as = [.m q, .d rows, .d (.int fuel)] ∧ M = (q, .ins C dx []) :: L ∧ ∀ sk fk, rt (.d .non) (machM C dx q sk fk rows fuel [] ⟨0, [], [], 0⟩ L)
def WentP (C : Addr) (cs : Ex → Addr) (rows : Dat) (fuel : Int) (q dx : Addr) (L : Mem) (rt : DV → Mem → Prop) (ex : Value → Mem → Prop) : Rs → Prop
  | .val v m => ∀ (at_ : Nat) (sk fk : Addr), rt (.d (.int v)) ((q, .ins C dx (machF rows fuel m at_ sk fk)) :: L)
  | .exc e m => ∀ (at_ : Nat) (sk fk : Addr), ex (.ref (cs e)) ((q, .ins C dx (machF rows fuel m at_ sk fk)) :: L)
def PWent (C : Addr) (cs : Ex → Addr) : PreG := fun M as rt ex => Fr M fun M0 => ∃ (q dx sk fk : Addr) (rows : List Row) (fuel : Int) (a c room : Nat) (more : List Dat) (vs : List Int) (L : Mem) (r : Rs), as = [.m q, .d (.tup (.int a :: .int c :: .int room :: more)), .d (.lst (vs.map .int))] ∧
  M0 = machM C dx q sk fk (rowsD rows) fuel [] ⟨0, [], [], 0⟩ L ∧ RowsOk rows ∧ (∀ v ∈ vs, Small v) ∧ room ≤ 100000 ∧ vs.length ≤ 1000000 ∧ RunsTo rows fuel a room vs r ∧ WentP C cs (rowsD rows) fuel q dx L rt ex r
theorem mstep_few {rows : List Row} {fuel : Int} {s s' : MS} (h : mstep rows fuel s = some (.ok s')) (hs : s.st.length ≤ 300000) : s'.st.length ≤ 300000 := by
  unfold mstep at h
  split at h
  · cases h
  rename_i ret sl fr hf
  split at h
  · cases h
  rename_i row hr
  cases row with
  | push i =>
    simp only [mrow] at h
    split at h
    · cases h; simp only [List.length_cons]; omega
    · cases h
  | load k =>
    simp only [mrow] at h
    split at h
    · split at h
      · cases h; simp only [List.length_cons]; omega
      · cases h
    · cases h
  | keep k =>
    simp only [mrow] at h
    split at h
    · rename_i v st e
      split at h
      · cases h; rw [e] at hs; simp only [List.length_cons] at hs; simp only; omega
      · cases h
    · cases h
  | dod w =>
    simp only [mrow] at h
    split at h
    · rename_i b a st e
      split at h
      · cases h; rw [e] at hs; simp only [List.length_cons] at hs ⊢; omega
      · cases h
    · cases h
  | «unless» k =>
    simp only [mrow] at h
    split at h
    · rename_i v st e
      cases h; rw [e] at hs; simp only [List.length_cons] at hs; simp only; omega
    · cases h
  | skip k =>
    simp only [mrow] at h
    cases h
    exact hs
  | call a b c =>
    simp only [mrow] at h
    split at h
    · unfold enterM at h
      split at h
      · cases h
      split at h
      · cases h
      · cases h; simp only [List.length_drop]; omega
    · cases h
  | back =>
    simp only [mrow] at h
    cases h
    exact hs
/-! ### small things of many texts -/
def ocN (cs : Ex → Addr) : Option Ex → Oc
  | none => .val .non
  | some x => .exc (.ref (cs x))
theorem ocN_some {cs : Ex → Addr} {o : Option Ex} {x : Ex} (h : o = some x) : ocN cs o = .exc (.ref (cs x)) := by rw [h]; rfl
theorem ocN_none {cs : Ex → Addr} {o : Option Ex} (h : o = none) : ocN cs o = .val .non := by rw [h]; rfl
instance {cs : Ex → Addr} {o : Option Ex} {R : DV → Mem → Prop} {Xp : Value → Mem → Prop} {M : Mem} : Step (Fin (ocN cs o) R Xp M) ((o = none → R (.d .non) M) ∧ ∀ x, o = some x → Xp (.ref (cs x)) M) :=
  ⟨fun h => by
    cases o with
    | none => exact h.1 rfl
    | some x => exact h.2 x rfl⟩
theorem iteNone {A B : Prop} (h : A) : if (!(none : Option Nat).isSome) = true then A else B := h
theorem iteSome {A B : Prop} {n : Nat} (h : B) : if (!(some n : Option Nat).isSome) = true then A else B := h
theorem mdef_tr {X Y : Cx} {CX : CXT} {d : Nat} {C : Addr} {m : Str} {ps : List Str} {Pre : PreG} (t : TrC X Y) (D : MDef X.prog X.w X.K X.mg X.base CX d C m ps (spG X.K Pre)) : MDef Y.prog Y.w Y.K Y.mg Y.base CX d C m ps (spG Y.K Pre) := by
  rw [t.prog, t.w, t.K, t.mg, t.base]; exact D
inductive RStart (cs : Ex → Addr) : List Dat → Oc → Prop
  | mk (counts : List (Str × Nat)) (nm : Str) (vs : List Int) : RStart cs [cntD counts, .str nm, .lst (vs.map .int)] (ocN cs (startE counts nm vs.length))
/-! ### run -/
structure GS where
  a : Nat
  c : Nat
  room : Nat
  more : List Dat
def GS.dat (g : GS) : Dat := .tup (.int g.a :: .int g.c :: .int g.room :: g.more)
def gsD (gs : List (Str × GS)) : Dat := .dct (gs.map fun q => ((.inr q.1 : Ky), q.2.dat))
def lookG : List (Str × GS) → Str → Option GS
  | [], _ => none
  | (y, n) :: r, x => if y = x then some n else lookG r x
abbrev cntG (gs : List (Str × GS)) : List (Str × Nat) := gs.map fun q => (q.1, q.2.c)
theorem gsD_val (x : Str) : ∀ gs : List (Str × GS), valD (gs.map fun q => ((.inr q.1 : Ky), q.2.dat)) (.inr x) = (lookG gs x).map GS.dat
  | [] => rfl
  | (y, n) :: r => by
    rw [List.map_cons]
    unfold valD lookG
    by_cases h : y = x
    · rw [if_pos h, if_pos (by rw [h])]
      rfl
    · rw [if_neg h, if_neg (fun e => h (Sum.inr.inj e))]
      exact gsD_val x r
theorem ix_gs {M : Mem} {gs : List (Str × GS)} {x : Str} {g : GS} {k : DV → Prop} (e : lookG gs x = some g) (h : k (.d g.dat)) : IxA M (.d (gsD gs)) (.d (.str x)) k := dvP (.str x) ⟨g.dat, by rw [gsD_val, e]; rfl, h⟩
theorem cntG_look (x : Str) : ∀ gs : List (Str × GS), lookC (cntG gs) x = (lookG gs x).map GS.c
  | [] => rfl
  | (y, n) :: r => by
    have ih := cntG_look x r
    show (if y = x then some n.c else lookC (cntG r) x) = (if y = x then some n else lookG r x).map GS.c
    rw [ih]
    split <;> rfl
theorem lookG_at {gs : List (Str × GS)} {n : Nat} {q : Str × GS} (nd : (gs.map (·.1)).Nodup) (h : gs[n]? = some q) : lookG gs q.1 = some q.2 ∧ lookC (cntG (gs.take n)) q.1 = none := by
  induction gs generalizing n with
  | nil => simp at h
  | cons g gs ih =>
    rw [List.map_cons, List.nodup_cons] at nd
    cases n with
    | zero =>
      cases h
      exact ⟨by unfold lookG; rw [if_pos rfl], rfl⟩
    | succ n =>
      have h' : gs[n]? = some q := by simpa using h
      obtain ⟨a, b⟩ := ih nd.2 h'
      have ne : g.1 ≠ q.1 := fun e => nd.1 (List.mem_map.mpr ⟨q, List.mem_of_getElem? h', e.symm⟩)
      refine ⟨by unfold lookG; rw [if_neg ne]; exact a, ?_⟩
      rw [List.take_succ_cons]
      show (if g.1 = q.1 then some g.2.c else lookC (cntG (gs.take n)) q.1) = none
      rw [if_neg ne]
      exact b
abbrev codeF (rows starts : Dat) : List (Str × DV) := [("rows", .d rows), ("starts", .d starts)]
def PRun (CC : Addr) (cs : Ex → Addr) : PreG := fun M as rt ex => ∃ (c : Addr) (i : Nat) (dx : Addr) (rows : List Row) (gs : List (Str × GS)) (nm : Str) (vs : List Int) (fuel : Int), as = [.m c, .d (.str nm), .d (.lst (vs.map .int)), .d (.int fuel)] ∧ M[i]? = some (c, .ins CC dx (codeF (rowsD rows) (gsD gs))) ∧
  RowsOk rows ∧ (∀ v ∈ vs, Small v) ∧ (gs.map (·.1)).Nodup ∧ gs.length ≤ 1000 ∧ vs.length ≤ 1000000 ∧ match startE (cntG gs) nm vs.length with
    | some x => ex (.ref (cs x)) M
    | none => ∃ g r, lookG gs nm = some g ∧ g.room ≤ 100000 ∧ RunsTo rows fuel g.a g.room vs r ∧ rt (.d (rsD r)) M
def PInitC (C : Addr) : PreG := fun M as rt ex => ∃ (q dx : Addr) (L : Mem) (rows starts : Dat), as = [.m q, .d rows, .d starts] ∧ M = (q, .ins C dx []) :: L ∧ rt (.d .non) ((q, .ins C dx (codeF rows starts)) :: L)
theorem mstep_goes {rows : List Row} {fuel : Int} {s : MS} {e : Ex} (h : mstep rows fuel s = some (.error e)) : Goes e := by
  unfold mstep at h
  split at h
  · cases h
  split at h
  · cases h
  rename_i row hr
  cases row with
  | push i =>
    simp only [mrow] at h
    split at h <;> cases h
  | load k =>
    simp only [mrow] at h
    split at h
    · split at h <;> cases h
    · cases h
  | keep k =>
    simp only [mrow] at h
    split at h
    · split at h <;> cases h
    · cases h
  | dod w =>
    simp only [mrow] at h
    split at h
    · split at h
      · cases h
      · rename_i e' he
        cases h
        exact reckon_goes he
    · cases h
  | «unless» k =>
    simp only [mrow] at h
    split at h <;> cases h
  | skip k =>
    simp only [mrow] at h
    cases h
  | call a b c =>
    simp only [mrow] at h
    split at h
    · unfold enterM at h
      split at h
      · cases h; exact .inr (.inr (.inl rfl))
      split at h
      · cases h; exact .inr (.inr (.inr rfl))
      · cases h
    · cases h
  | back =>
    simp only [mrow] at h
    cases h
theorem ends_goes {rows : List Row} {fuel : Int} {n : Nat} {s : MS} {r : Rs} (h : Ends rows fuel n s r) : ∀ {e m}, r = .exc e m → Goes e := by
  induction h with
  | done => intro e m z; cases z
  | step _ _ ih => exact ih
  | err h => intro e m z; cases z; exact mstep_goes h
theorem runs_goes {rows : List Row} {fuel : Int} {a room : Nat} {vs : List Int} {e : Ex} {m : Nat} (h : RunsTo rows fuel a room vs (.exc e m)) : Goes e := by
  rcases h with ⟨_, h⟩ | ⟨_, n, h⟩
  · cases h; exact .inr (.inr (.inr rfl))
  · exact ends_goes h rfl
end CS

/-! CsEnum: enumerate of a list, of a tuple. -/
namespace CS
open PySem PySem.Spec PyProof.Rows L2
theorem meets_enum1 {v : Value} {o : Obj} {H : Heap → Prop} (B : Begins v o H) :
    Meets (Builtin.«enumerate.__new__» ⟨[.type "enumerate", v], []⟩) (fun _ R s => H s.heap ∧
      R (.ok (.ret (.ref (s.heap.push o).objs.size))) { s with heap := (s.heap.push o).push { cls := .type "enumerate", data := .fields #[.none, .bool false, .ref s.heap.objs.size, rawInt 0, .none, .none] } }) :=
  .of_wp fun prog w A R s h => by
    obtain ⟨hp, g, d, tk, os⟩ := s; obtain ⟨h1, h⟩ := h
    have hsub := sub_enumerate
    have q1 : ∀ {A' : Around} {E : Value → Shared → Prop} {Q : Value → Shared → Prop}, Q (.ref hp.objs.size) ⟨hp.push o, g, d, tk, os⟩ → wpAny (model prog w) A' (pyIter v) Q E ⟨hp, g, d, tk, os⟩ :=
      fun q => B.iter prog w _ _ ⟨hp, g, d, tk, os⟩ _ h1 q
    wp_walk using q1
    refine wpAny_stack_any fun st => wpAny_pure ?_
    split
    · rename_i c _ _ _ _ _
      cases (c == Value.type "enumerate")
      · wp_walk using q1
        exact ⟨_, rfl, h⟩
      · wp_walk using q1
        exact ⟨_, rfl, h⟩
    · wp_walk using q1
      exact ⟨_, rfl, h⟩
section
variable {prog : Program} {w : World} {A : Around} {E : Value → Shared → Prop} {s : Shared}
theorem enum_begins1 {v : Value} {o : Obj} {H : Heap → Prop} {Q : Value → Shared → Prop} (B : Begins v o H) (h1 : H s.heap)
    (h : ∀ h', IsEnum h' (s.heap.objs.size + 1) s.heap.objs.size 0 .none → h'.get? s.heap.objs.size = some o → h'.objs.size = s.heap.objs.size + 2 →
      (∀ b o, s.heap.get? b = some o → h'.get? b = some o) → Q (.ref (s.heap.objs.size + 1)) { s with heap := h' }) :
    wpAny (model prog w) A (call (.type "enumerate") [v]) Q E s := by
  refine callType_new F.called_enumerate (by decide) (F.typeCall_enumerate_1 _) (F.newCall_enumerate_1 _) (fun obj => F.args_object_init_2 obj _) F.entry_enumerate_new
    (meets_enum1 B) ⟨h1, ?_⟩
  have hz : (s.heap.push o).objs.size = s.heap.objs.size + 1 := Heap.size_push ..
  show _ ∧ _
  rw [hz]
  have he : IsEnum ((s.heap.push o).push { cls := .type "enumerate", data := .fields #[.none, .bool false, .ref s.heap.objs.size, rawInt 0, .none, .none] }) (s.heap.objs.size + 1) s.heap.objs.size 0 .none := by
    have := Heap.get?_push_size (s.heap.push o) (o := { cls := .type "enumerate", data := .fields #[.none, .bool false, .ref s.heap.objs.size, rawInt 0, .none, .none] }) rfl
    rw [hz] at this; exact this
  refine ⟨⟨_, he, rfl⟩, h _ he (Heap.get?_push_of_some _ (Heap.get?_push_size _ B.free)) (by rw [Heap.size_push, hz]) fun b o x => Heap.get?_push_of_some _ (Heap.get?_push_of_some _ x)⟩
end
/-- the tuple at a, each item in a new pair -/
def IteT (K : PySem.W.Frag) (a : Addr) : It :=
  ⟨fun i H => ∃ (xs : List V) (x : V), SqT K H a xs ∧ xs[i]? = some x, fun i H v H' => ∃ T x, v = .ref T ∧ H T = none ∧ H' = upd H T (.tup [.int (i : Nat), x]) ∧ ∀ xs, SqT K H a xs → xs[i]? = some x, fun i H => ∃ xs : List V, SqT K H a xs ∧ xs.length = i⟩
theorem turn_enumT {P : Program} {w : World} {K : PySem.W.Frag} {elts : List Expr} {kk : Nat} {tpos : Pos} (a e it : Addr) :
    Turn P w K (.Tuple elts kk tpos) (IteT K a) [e, it] e (fun i h => (∃ old, IsEnum h e it ((i : Nat) : Int) old) ∧ h.IsTupleIter it a i ∧ e ≠ it ∧ e ≠ a ∧ a ≠ it) where
  mem := by simp
  obj := fun i h st b hb => by
    obtain ⟨⟨old, he⟩, ⟨o, ho, hc, hd⟩, _⟩ := st
    have e' : b = e ∨ b = it := by simpa using hb
    rcases e' with z | z
    · rw [z]; exact ⟨_, he, fun v q => nomatch q⟩
    · rw [z]; exact ⟨o, ho, fun v q => by rw [hd] at q; cases q⟩
  keep := fun i h h' st k => let ⟨⟨old, he⟩, hi, hne⟩ := st; ⟨⟨old, k e (by simp) _ he⟩, hi.at fun o q => k it (by simp) o q, hne⟩
  item := by
    intro X hP hw hK hc i pins s σ H E I hf st hg
    subst hP hw hK
    obtain ⟨⟨old, he⟩, hit, hne, hea, hai⟩ := st
    obtain ⟨xs, x, hq, hx⟩ := hg
    obtain ⟨its, rv, p, hz⟩ := I.tuple hq
    obtain ⟨u, hu, ru⟩ := rv.get hx
    have hel : e < s.heap.objs.size := Heap.lt_size he
    have hil : it < s.heap.objs.size := by obtain ⟨_, q, _⟩ := hit; exact Heap.lt_size q
    have calm : X.A.in1.handled = none := I.ok.hd hc
    have lx : i < its.toArray.size := by rw [List.size_toArray, ← rv.length]; exact (List.getElem?_eq_some_iff.mp hx).1
    refine wpAny_pyNext_enum_itemD (Draws.tuple calm it a hai its.toArray) he ⟨hit, p⟩ lx hne (by simp [hne, hea]) fun u' h' tk gu ho st' hT hsz hk => ?_
    obtain rfl : u' = u := by
      have gu : its.toArray[i]? = some u' := gu
      rw [List.getElem?_toArray, hu] at gu
      exact (Option.some.inj gu).symm
    refine ⟨_, rfl, wpAny_letOwnedTupleGo_enum (s := { s with heap := h', toks := tk + 1 }) ho fun h'' he' sb => ?_⟩
    have hT2 : h''.get? s.heap.objs.size = some { cls := .type "tuple", data := .seq #[.int i tk, u'] } := (sb.2 _ (Nat.ne_of_gt hel)).trans hT
    have new : ObjOk X.prog X.w (upd H s.heap.objs.size (.tup [.int (i : Nat), x])) h'' s.heap.objs.size (.tup [.int (i : Nat), x]) :=
      ⟨by show 2 ≤ sizeLine; decide, [.int i tk, u'], .cons ⟨_, rfl⟩ (.cons ru .nil), ⟨_, hT2, rfl, _, rfl⟩⟩
    have I1 : Inv X pins σ (upd H s.heap.objs.size (.tup [.int (i : Nat), x])) { s with heap := h'', toks := tk + 1 } :=
      I.turnedNew (ch := [e, it]) (fun b ob hb q => (sb.2 b (fun z => hb (by simp [z]))).trans (hk b ob (fun z => hb (by simp [z])) (fun z => hb (by simp [z])) q)) hf (Nat.le_refl _) new
    refine ⟨.ref s.heap.objs.size, _, I1, rfl, ⟨_, x, rfl, I.hok.fresh (Nat.le_refl _), rfl, fun ys hy => by rw [I.tuple_inj hy hq]; exact hx⟩, ⟨⟨u', ?_⟩, st'.1.at fun o q => (sb.2 it (Ne.symm hne)).trans q, hne, hea, hai⟩, fun b hb => ?_⟩
    · have e1 : ((i + 1 : Nat) : Int) = (i : Int) + 1 := by omega
      rw [e1]; exact he'
    · have hb' : b < s.heap.objs.size := by
        have e' : b = e ∨ b = it := by simpa using hb
        rcases e' with z | z
        · rw [z]; exact hel
        · rw [z]; exact hil
      rw [upd_ne (Nat.ne_of_lt hb')]
      exact (hf b hb).1
  done := by
    intro X hP hw hK hc i pins s σ H E I hf st hg
    subst hP hw hK
    obtain ⟨⟨old, he⟩, hit, hne, hea, hai⟩ := st
    obtain ⟨xs, hq, hx⟩ := hg
    obtain ⟨its, rv, p, hz⟩ := I.tuple hq
    have calm : X.A.in1.handled = none := I.ok.hd hc
    obtain ⟨f0, f1, f2, f3, f4, f5⟩ := hf it (by simp)
    have e1 : its.toArray.size = i := by rw [List.size_toArray, ← rv.length, hx]
    exact wpAny_pyNext_enum_endD (Draws.tuple calm it a hai its.toArray) he (by rw [e1]; exact ⟨hit, p⟩) fun h' eb => ⟨rfl, I.turned (t' := s.toks) (fun b o hb q => eb b o hb q) f0 f1 f3 f4 f5⟩
  self := fun A i s Q E st h => let ⟨⟨_, he⟩, _⟩ := st; wpAny_pyIter_enum he h
def iEnumT (K : PySem.W.Frag) (ta : TA) : TI := fun σ H R => ta σ H fun vs H1 => ∃ a xs, vs = [.ref a] ∧ SqT K H1 a xs ∧ R (IteT K a) H1
theorem pi_enumT {X : Cx} {e : Expr} {ta : TA} {p pos tpos : Pos} {elts : List Expr} {kk : Nat} (hg : Gl X "enumerate") (hm : X.mg "enumerate" = none) (ha : PA X [e] ta) (hs : starEach [e] X.env = [(false, eval e X.env)] := by rfl) :
    PI X (.Tuple elts kk tpos) (.Call (.Name "enumerate" p) [e] [] pos) (iEnumT X.K ta) := by
  refine ⟨fun pins s σ H R I h => ?_⟩
  refine Call_ (ld_blt I hg hm boot_enumerate (PyProof.Rows.callWith_type1 (thn (ha.run pos pins s σ H _ I h) fun us s1 ⟨vs, H1, I1, r1, q1⟩ => ?_) hs rfl))
  obtain ⟨a, xs, ex, hq, q⟩ := q1
  subst ex
  cases r1 with
  | cons r rr =>
    cases rr
    cases r
    obtain ⟨its, rv, p', hz⟩ := I1.tuple hq
    have al : a < s1.heap.objs.size := by obtain ⟨o, ho, _⟩ := p'; exact Heap.lt_size ho
    refine enum_begins1 (begins_tuple a its.toArray) p' fun h' he hit hsz hk => wpAny_pyIter_enum he ?_
    have I2 : Inv X pins σ H1 { s1 with heap := h' } := I1.kept (t' := s1.toks) hk
    refine ⟨s1.heap.objs.size + 1, [s1.heap.objs.size + 1, s1.heap.objs.size], _, _, H1, rfl, I2, turn_enumT a (s1.heap.objs.size + 1) s1.heap.objs.size, ⟨⟨.none, he⟩, ⟨_, hit, rfl, rfl⟩, Nat.succ_ne_self _, Nat.ne_of_gt (Nat.lt_succ_of_lt al), Nat.ne_of_lt al⟩, fun b hb => ?_, q⟩
    have e' : b = s1.heap.objs.size + 1 ∨ b = s1.heap.objs.size := by simpa using hb
    have hle : s1.heap.objs.size ≤ b := by
      rcases e' with z | z
      · rw [z]; exact Nat.le_add_right _ _
      · rw [z]; exact Nat.le_refl _
    exact I1.fpOk hle (I1.hok.fresh hle)
def enumD (xs : List Dat) : List Dat := xs.mapIdx fun i x => .tup [.int (i : Nat), x]
theorem enumD_len (xs : List Dat) : (enumD xs).length = xs.length := by simp [enumD]
theorem enumD_get {xs : List Dat} {i : Nat} {x : Dat} (h : xs[i]? = some x) : (enumD xs)[i]? = some (.tup [.int (i : Nat), x]) := by
  rw [enumD, List.getElem?_mapIdx, h]; rfl
theorem enumD_at {xs : List Dat} {i : Nat} {y : Dat} (h : (enumD xs)[i]? = some y) : ∃ x, xs[i]? = some x ∧ y = .tup [.int (i : Nat), x] := by
  have hl := (List.getElem?_eq_some_iff.mp h).1
  rw [enumD_len] at hl
  refine ⟨xs[i], List.getElem?_eq_getElem hl, ?_⟩
  rw [enumD_get (List.getElem?_eq_getElem hl)] at h
  exact (Option.some.inj h).symm
theorem itd_enumT {K : PySem.W.Frag} {F : Hp} {a : Addr} {vs : List V} {xs : List Dat} (ha : F a = some (.tup vs)) (rx : RpL K F vs xs) : ItD K (IteT K a) F (enumD xs) := fun F' H' s1 s2 i => by
  have pa : SqT K H' a vs := .of (s2 _ _ (s1 _ _ ha))
  rw [enumD_len]
  refine ⟨fun h => ?_, fun h => ?_, fun v H2 hy hi => ?_⟩
  · have h1 : i < vs.length := by rw [rx.len]; omega
    exact ⟨vs, vs[i], pa, List.getElem?_eq_getElem h1⟩
  · exact ⟨vs, pa, by rw [rx.len]; exact h⟩
  · obtain ⟨T, x, rfl, hT, rfl, gx⟩ := hy
    obtain ⟨dx, ex, ox⟩ := rx.getV (gx vs pa)
    have y := Ext.lay (.tup [.int (i : Nat), x]) s2 hT
    exact ⟨_, .tup [.int (i : Nat), dx], y, enumD_get ex, .tup upd_same (.cons (.int _) (.cons ((ox.mono s1).mono y.ff) .nil))⟩
theorem itd_enumL {K : PySem.W.Frag} {F : Hp} {a : Addr} {vs : List V} {xs : List Dat} (ha : F a = some (.lst vs)) (rx : RpL K F vs xs) : ItD K (Ite K a) F (enumD xs) := fun F' H' s1 s2 i => by
  have pa : SqL K H' a vs := .of (s2 _ _ (s1 _ _ ha))
  rw [enumD_len]
  refine ⟨fun h => ?_, fun h => ?_, fun v H2 hy hi => ?_⟩
  · have h1 : i < vs.length := by rw [rx.len]; omega
    exact ⟨vs, vs[i], pa, List.getElem?_eq_getElem h1⟩
  · exact ⟨vs, pa, by rw [rx.len]; exact Nat.le_of_eq h⟩
  · obtain ⟨T, x, rfl, hT, rfl, gx⟩ := hy
    obtain ⟨dx, ex, ox⟩ := rx.getV (gx vs pa)
    have y := Ext.lay (.tup [.int (i : Nat), x]) s2 hT
    exact ⟨_, .tup [.int (i : Nat), dx], y, enumD_get ex, .tup upd_same (.cons (.int _) (.cons ((ox.mono s1).mono y.ff) .nil))⟩
section
variable {X : Cx} {W : WX} {e : Expr} {ds : Slots} {M : Mem} {Xp : Value → Mem → Prop} {V' L G B : List Str} {p pos tpos : Pos} {elts : List Expr} {kk : Nat}
def OneT (dvs : List DV) (k : List Dat → Prop) : Prop := ∃ xs, dvs = [.d (.tup xs)] ∧ k xs
instance {xs : List Dat} {k : List Dat → Prop} : Step (OneT [.d (.tup xs)] k) (k xs) := ⟨fun h => ⟨xs, rfl, h⟩⟩
def OneL (dvs : List DV) (k : List Dat → Prop) : Prop := ∃ xs, dvs = [.d (.lst xs)] ∧ k xs
instance {xs : List Dat} {k : List Dat → Prop} : Step (OneL [.d (.lst xs)] k) (k xs) := ⟨fun h => ⟨xs, rfl, h⟩⟩
/-- enumerate of a tuple -/
theorem hiET {k : List Dat → Mem → Prop} [kc : Kc X V' L G B] [m : MmC B "enumerate"] [s : NS e] (h : HA X W [e] ds M (fun dvs M1 => OneT dvs fun xs => k (enumD xs) M1) Xp) :
    HI X W (.Tuple elts kk tpos) (.Call (.Name "enumerate" p) [e] [] pos) ds M k Xp := fun n =>
  ⟨_, pi_enumT (kc.k.bl _ m.h.mem).1 (kc.k.bl _ m.h.mem).2.1 (pa_t X _) (s.h [] X.env), fun S F0 H0 F H σ I Q q x => h n S F0 H0 F H σ I _ (fun vs F1 H1 M1 dvs s1 I1 o1 g1 => by
    obtain ⟨xs, rfl, g⟩ := g1
    cases o1 with
    | cons oa o2 =>
      cases o2
      have oa : Rp X.K F1 _ (.tup xs) := oa
      cases oa with
      | tup hF r => exact ⟨_, _, rfl, .of (I1.fh _ _ hF), q _ _ F1 H1 M1 s1 I1 (itd_enumT hF r) g⟩) x⟩
/-- enumerate of a list -/
theorem hiEL {k : List Dat → Mem → Prop} [kc : Kc X V' L G B] [m : MmC B "enumerate"] [s : NS e] (h : HA X W [e] ds M (fun dvs M1 => OneL dvs fun xs => k (enumD xs) M1) Xp) :
    HI X W (.Tuple elts kk tpos) (.Call (.Name "enumerate" p) [e] [] pos) ds M k Xp := fun n =>
  ⟨_, pi_enum (kc.k.bl _ m.h.mem).1 (kc.k.bl _ m.h.mem).2.1 (pa_t X _) (s.h [] X.env), fun S F0 H0 F H σ I Q q x => h n S F0 H0 F H σ I _ (fun vs F1 H1 M1 dvs s1 I1 o1 g1 => by
    obtain ⟨xs, rfl, g⟩ := g1
    cases o1 with
    | cons oa o2 =>
      cases o2
      have oa : Rp X.K F1 _ (.lst xs) := oa
      cases oa with
      | lst hF r => exact ⟨_, _, rfl, .of (I1.fh _ _ hF), q _ _ F1 H1 M1 s1 I1 (itd_enumL hF r) g⟩) x⟩
end
end CS

/-! CsSmith: facts for the making of rows; what its defs promise. -/
namespace CS
open PySem L2
mutual
def Tree.hgt : Tree → Nat
  | .num _ => 1
  | .name _ => 1
  | .deed _ a b => 1 + max a.hgt b.hgt
  | .choose a b c => 1 + max a.hgt (max b.hgt c.hgt)
  | .dlet _ a b => 1 + max a.hgt b.hgt
  | .call _ ts => 1 + Tree.hgtL ts
def Tree.hgtL : List Tree → Nat
  | [] => 0
  | t :: ts => max t.hgt (Tree.hgtL ts)
end
mutual
theorem need_hgt (cs : List (Str × Nat)) : ∀ (t : Tree) (ns : List Str) (l : Nat), need cs ns l t = none → t.hgt + l ≤ 13
  | .num i, ns, l, h => by
    rw [need] at h
    split at h
    · cases h
    · rw [Tree.hgt]; omega
  | .name x, ns, l, h => by
    rw [need] at h
    split at h
    · cases h
    · rw [Tree.hgt]; omega
  | .deed w a b, ns, l, h => by
    rw [need] at h
    split at h
    · cases h
    obtain ⟨h1, h2⟩ := or_none h
    have e1 := need_hgt cs a ns (l + 1) h1
    have e2 := need_hgt cs b ns (l + 1) h2
    rw [Tree.hgt]; omega
  | .choose a b c, ns, l, h => by
    rw [need] at h
    split at h
    · cases h
    obtain ⟨h, h3⟩ := or_none h
    obtain ⟨h1, h2⟩ := or_none h
    have e1 := need_hgt cs a ns (l + 1) h1
    have e2 := need_hgt cs b ns (l + 1) h2
    have e3 := need_hgt cs c ns (l + 1) h3
    rw [Tree.hgt]; omega
  | .dlet x a b, ns, l, h => by
    rw [need] at h
    split at h
    · cases h
    obtain ⟨h1, h2⟩ := or_none h
    have e1 := need_hgt cs a ns (l + 1) h1
    have e2 := need_hgt cs b _ (l + 1) h2
    rw [Tree.hgt]; omega
  | .call f ts, ns, l, h => by
    rw [need] at h
    split at h
    · cases h
    split at h
    · cases h
    split at h
    · have e := needL_hgt cs ts ns (l + 1) h (by omega)
      rw [Tree.hgt]; omega
    · cases h
theorem needL_hgt (cs : List (Str × Nat)) : ∀ (ts : List Tree) (ns : List Str) (l : Nat), needL cs ns l ts = none → l ≤ 13 → Tree.hgtL ts + l ≤ 13
  | [], ns, l, h, hl => by rw [Tree.hgtL]; omega
  | t :: ts, ns, l, h, hl => by
    rw [needL] at h
    obtain ⟨h1, h2⟩ := or_none h
    have e1 := need_hgt cs t ns l h1
    have e2 := needL_hgt cs ts ns l h2 hl
    rw [Tree.hgtL]; omega
end
theorem hgtL_mem {u : Tree} : ∀ {ts : List Tree}, u ∈ ts → u.hgt ≤ Tree.hgtL ts
  | t :: ts, h => by
    rw [Tree.hgtL]
    rcases List.mem_cons.mp h with rfl | h
    · omega
    · have := hgtL_mem h; omega
theorem parts_hgt {t u : Tree} {k : Nat} (h : t.hgt ≤ k + 1) (hu : u ∈ t.parts) : u.hgt ≤ k := by
  cases t with
  | num i => simp [Tree.parts] at hu
  | name x => simp [Tree.parts] at hu
  | deed w a b =>
    rw [Tree.hgt] at h
    simp only [Tree.parts, List.mem_cons, List.not_mem_nil, or_false] at hu
    rcases hu with rfl | rfl <;> omega
  | choose a b c =>
    rw [Tree.hgt] at h
    simp only [Tree.parts, List.mem_cons, List.not_mem_nil, or_false] at hu
    rcases hu with rfl | rfl | rfl <;> omega
  | dlet x a b =>
    rw [Tree.hgt] at h
    simp only [Tree.parts, List.mem_cons, List.not_mem_nil, or_false] at hu
    rcases hu with rfl | rfl <;> omega
  | call f ts =>
    rw [Tree.hgt] at h
    have := hgtL_mem (show u ∈ ts from hu)
    omega
theorem hgt_pos (t : Tree) : 1 ≤ t.hgt := by cases t <;> rw [Tree.hgt] <;> omega
/-! ### sums and greatest ones over parts -/
theorem sizeL_sum : ∀ ts : List Tree, sizeL ts = (ts.map size).sum
  | [] => by rw [sizeL]; rfl
  | t :: ts => by rw [sizeL, sizeL_sum ts, List.map_cons, List.sum_cons]
def base : Tree → Nat
  | .choose _ _ _ => 2
  | _ => 1
theorem size_parts (t : Tree) : size t = base t + (t.parts.map size).sum := by
  cases t with
  | num i => rw [size]; rfl
  | name x => rw [size]; rfl
  | deed w a b => rw [size]; show _ = 1 + (size a + (size b + 0)); omega
  | choose a b c => rw [size]; show _ = 2 + (size a + (size b + (size c + 0))); omega
  | dlet x a b => rw [size]; show _ = 1 + (size a + (size b + 0)); omega
  | call f ts => rw [size, sizeL_sum]; rfl
theorem size_pos (t : Tree) : 1 ≤ size t := by cases t <;> rw [size] <;> omega
theorem sizes_le {u : Tree} : ∀ {ts : List Tree}, u ∈ ts → size u ≤ (ts.map size).sum
  | t :: ts, h => by
    rw [List.map_cons, List.sum_cons]
    rcases List.mem_cons.mp h with rfl | h
    · omega
    · have := sizes_le h; omega
theorem sizes_few : ∀ ts : List Tree, ts.length ≤ (ts.map size).sum
  | [] => Nat.zero_le _
  | t :: ts => by
    have := sizes_few ts
    have := size_pos t
    rw [List.map_cons, List.sum_cons, List.length_cons]; omega
theorem parts_size {t u : Tree} {n : Nat} (h : size t ≤ n) (hu : u ∈ t.parts) : size u ≤ n := by
  have := sizes_le hu
  rw [size_parts] at h
  omega
theorem parts_few {t : Tree} {n : Nat} (h : size t ≤ n) : t.parts.length ≤ n := by
  have := sizes_few t.parts
  rw [size_parts] at h
  omega
theorem sum_take {ts : List Nat} {n x : Nat} (h : ts[n]? = some x) : (ts.take (n + 1)).sum = (ts.take n).sum + x := by
  rw [List.take_add_one, h, List.sum_append]; simp
/-- m is the greatest of these -/
def Most (ns : List Int) (m : Int) : Prop := m ∈ ns ∧ ∀ y ∈ ns, y ≤ m
theorem Most.one {ns : List Int} {m n : Int} (h : Most ns m) (g : Most ns n) : m = n := by
  have a := h.2 n g.1
  have b := g.2 m h.1
  omega
def castI (ns : List Nat) : List Int := ns.map fun n : Nat => (n : Int)
theorem mem_castI {ns : List Nat} {z : Int} : z ∈ castI ns ↔ ∃ n ∈ ns, (n : Int) = z := by simp [castI]
theorem lets_most (t : Tree) (h : ∀ x a b, t ≠ .dlet x a b) : Most (castI (0 :: t.parts.map lets)) (lets t) := by
  have hl : ∀ ts : List Tree, (letsL ts = 0 ∨ ∃ u ∈ ts, lets u = letsL ts) ∧ ∀ u ∈ ts, lets u ≤ letsL ts := by
    intro ts
    induction ts with
    | nil => exact ⟨.inl (by rw [letsL]), fun u hu => by simp at hu⟩
    | cons t ts ih =>
      refine ⟨?_, fun u hu => ?_⟩
      · rw [letsL]
        rcases Nat.le_total (lets t) (letsL ts) with q | q
        · rw [Nat.max_eq_right q]
          rcases ih.1 with z | ⟨u, hu, e⟩
          · exact .inl z
          · exact .inr ⟨u, List.mem_cons_of_mem _ hu, e⟩
        · rw [Nat.max_eq_left q]
          exact .inr ⟨t, List.mem_cons_self, rfl⟩
      · rw [letsL]
        rcases List.mem_cons.mp hu with rfl | hu
        · omega
        · have := ih.2 u hu; omega
  have all : lets t = letsL t.parts := by
    cases t with
    | num i => rw [lets]; show _ = letsL []; rw [letsL]
    | name i => rw [lets]; show _ = letsL []; rw [letsL]
    | deed w a b => rw [lets]; show _ = letsL [a, b]; rw [letsL, letsL, letsL]; omega
    | choose a b c => rw [lets]; show _ = letsL [a, b, c]; rw [letsL, letsL, letsL, letsL]; omega
    | dlet x a b => exact absurd rfl (h x a b)
    | call f ts => rw [lets]; rfl
  obtain ⟨h1, h2⟩ := hl t.parts
  rw [all]
  refine ⟨?_, fun y hy => ?_⟩
  · rw [mem_castI]
    rcases h1 with z | ⟨u, hu, e⟩
    · exact ⟨0, List.mem_cons_self, by omega⟩
    · exact ⟨lets u, List.mem_cons_of_mem _ (List.mem_map.mpr ⟨u, hu, rfl⟩), by omega⟩
  · rw [mem_castI] at hy
    obtain ⟨n, hn, rfl⟩ := hy
    rcases List.mem_cons.mp hn with rfl | hn
    · omega
    · obtain ⟨u, hu, rfl⟩ := List.mem_map.mp hn
      have := h2 u hu
      omega
theorem high_pos (t : Tree) : 1 ≤ high t := by
  cases t with
  | num i => rw [high]; omega
  | name i => rw [high]; omega
  | deed w a b => have := high_pos a; rw [high]; omega
  | choose a b c => have := high_pos a; rw [high]; omega
  | dlet x a b => have := high_pos a; rw [high]; omega
  | call f ts => rw [high]; omega
theorem high_mostC (a b c : Tree) : Most (castI ([a, b, c].map high)) (high (.choose a b c)) := by
  rw [high]
  refine ⟨?_, fun y hy => ?_⟩
  · rw [mem_castI]
    by_cases h1 : high b ≤ high a ∧ high c ≤ high a
    · exact ⟨high a, by simp, by omega⟩
    · by_cases h2 : high c ≤ high b
      · exact ⟨high b, by simp, by omega⟩
      · exact ⟨high c, by simp, by omega⟩
  · rw [mem_castI] at hy
    obtain ⟨n, hn, rfl⟩ := hy
    simp only [List.map_cons, List.map_nil, List.mem_cons, List.not_mem_nil, or_false] at hn
    rcases hn with rfl | rfl | rfl <;> omega
theorem high_mostL (x : Str) (a b : Tree) : Most (castI ([a, b].map high)) (high (.dlet x a b)) := by
  rw [high]
  refine ⟨?_, fun y hy => ?_⟩
  · rw [mem_castI]
    by_cases h1 : high b ≤ high a
    · exact ⟨high a, by simp, by omega⟩
    · exact ⟨high b, by simp, by omega⟩
  · rw [mem_castI] at hy
    obtain ⟨n, hn, rfl⟩ := hy
    simp only [List.map_cons, List.map_nil, List.mem_cons, List.not_mem_nil, or_false] at hn
    rcases hn with rfl | rfl <;> omega
theorem highL_take {ts : List Tree} {n : Nat} {t : Tree} : ∀ {k : Nat}, ts[n]? = some t → highL k (ts.take (n + 1)) = max (highL k (ts.take n)) (k + n + high t) := by
  induction ts generalizing n with
  | nil => intro k h; simp at h
  | cons u ts ih =>
    intro k h
    cases n with
    | zero =>
      cases h
      rw [List.take_succ_cons, List.take_zero, List.take_zero, highL, highL, highL]; omega
    | succ n =>
      have h' : ts[n]? = some t := by simpa using h
      rw [List.take_succ_cons, List.take_succ_cons, highL, highL, ih h']
      omega
theorem high_rest (t : Tree) (h1 : ∀ a b c, t ≠ .choose a b c) (h2 : ∀ x a b, t ≠ .dlet x a b) : high t = max 1 (highL 0 t.parts) := by
  cases t with
  | num i => rw [high]; show _ = max 1 (highL 0 []); rw [highL]; omega
  | name i => rw [high]; show _ = max 1 (highL 0 []); rw [highL]; omega
  | deed w a b => have := high_pos a; rw [high]; show _ = max 1 (highL 0 [a, b]); rw [highL, highL, highL]; omega
  | choose a b c => exact absurd rfl (h1 a b c)
  | dlet x a b => exact absurd rfl (h2 x a b)
  | call f ts => rw [high]; rfl
/-! ### rows, part by part -/
theorem rowsL_take {sts : Starts} {sl : Sls} {free : Nat} {ts : List Tree} {n : Nat} {t : Tree} : ∀ {k : Nat}, ts[n]? = some t → rowsL sts (ts.take (n + 1)) sl free k = rowsL sts (ts.take n) sl free k ++ rowsOf sts t sl free (k + sizeL (ts.take n)) := by
  induction ts generalizing n with
  | nil => intro k h; simp at h
  | cons u ts ih =>
    intro k h
    cases n with
    | zero =>
      cases h
      rw [List.take_succ_cons, List.take_zero, List.take_zero, rowsL, rowsL, rowsL, sizeL]; simp
    | succ n =>
      have h' : ts[n]? = some t := by simpa using h
      rw [List.take_succ_cons, List.take_succ_cons, rowsL, rowsL, ih h', sizeL, List.append_assoc, Nat.add_assoc]
abbrev rowsV (l : List Row) : List DV := (l.map Row.dat).map DV.d
def slD (sl : Sls) : Dat := .dct (sl.map fun q => ((.inr q.1 : Ky), Dat.int (q.2 : Int)))
def slM (sl : Sls) : List (Ky × DV) := (sl.map fun q => ((.inr q.1 : Ky), Dat.int (q.2 : Int))).map fun kv => (kv.1, DV.d kv.2)
theorem slD_val (x : Str) : ∀ sl : Sls, valD (sl.map fun q => ((.inr q.1 : Ky), Dat.int (q.2 : Int))) (.inr x) = (lookS sl x).map fun n => .int (n : Int)
  | [] => rfl
  | (y, n) :: r => by
    rw [List.map_cons]
    unfold valD lookS
    by_cases h : y = x
    · rw [if_pos h, if_pos (by rw [h])]
      rfl
    · rw [if_neg h, if_neg (fun e => h (Sum.inr.inj e))]
      exact slD_val x r
theorem ix_sl {M : Mem} {sl : Sls} {x : Str} {n : Nat} {k : DV → Prop} (e : lookS sl x = some n) (h : k (.d (.int n))) : IxA M (.d (slD sl)) (.d (.str x)) k := dvP (.str x) ⟨.int n, by rw [slD_val, e]; rfl, h⟩
theorem slM_any (x : Str) : ∀ sl : Sls, ((slM sl).any fun kv => decide (kv.1 = (.inr x : Ky))) = (lookS sl x).isSome
  | [] => rfl
  | (y, n) :: r => by
    have ih := slM_any x r
    unfold slM at ih ⊢
    rw [List.map_cons, List.map_cons, List.any_cons, ih]
    rw [show lookS ((y, n) :: r) x = if y = x then some n else lookS r x from rfl]
    by_cases h : y = x
    · rw [if_pos h]; simp [h]
    · rw [if_neg h]; simp [h]
theorem slM_put {sl : Sls} {x : Str} {v : Nat} : putKD (slM sl) (.inr x) (.d (.int v)) = slM (putS sl x v) := by
  unfold putKD putS
  rw [slM_any, slot_any]
  split
  · unfold slM
    rw [List.map_map, List.map_map, List.map_map, List.map_map]
    refine List.map_congr_left fun q _ => ?_
    show (if (Sum.inr q.1 : Ky) = .inr x then _ else _) = _
    by_cases h : q.1 = x
    · simp [h]
    · simp [h]
  · unfold slM
    simp
theorem slM_len (sl : Sls) : (slM sl).length = sl.length := by simp [slM]
theorem putS_len {x : Str} {v : Nat} (sl : Sls) : (putS sl x v).length ≤ sl.length + 1 := by
  unfold putS
  split
  · rw [List.length_map]; omega
  · rw [List.length_append, List.length_singleton]; omega
def Start.gs (s : Start) : GS := ⟨s.at_, s.cnt, s.room, [.int s.top]⟩
def stG (sts : Starts) : List (Str × GS) := sts.map fun q => (q.1, q.2.gs)
theorem stG_look (x : Str) : ∀ sts : Starts, lookG (stG sts) x = (lookT sts x).map Start.gs
  | [] => rfl
  | (y, n) :: r => by
    have ih := stG_look x r
    show (if y = x then some n.gs else lookG (stG r) x) = (if y = x then some n else lookT r x).map Start.gs
    rw [ih]
    split <;> rfl
/-- what stands for a tree whose rows are made -/
structure RowsIn (cs : List (Str × Nat)) (sts : Starts) (t : Tree) (sl : Sls) (ns : List Str) (l : Nat) : Prop where
  need : need cs ns l t = none
  slots : ∀ x ∈ ns, (lookS sl x).isSome = true
  fns : ∀ f n, lookC cs f = some n → (lookT sts f).isSome = true
  few : sl.length + t.hgt ≤ 3000
  small : size t ≤ 1000000
def PRows (k : Nat) : PreG := fun M as rt ex => Fr M fun M0 => ∃ (t : Tree) (sl : Sls) (free at_ : Nat) (sts : Starts) (cs : List (Str × Nat)) (ns : List Str) (l : Nat), as = [.d t.dat, .d (slD sl), .d (.int free), .d (.int at_), .d (gsD (stG sts))] ∧
  t.hgt ≤ k ∧ RowsIn cs sts t sl ns l ∧ ∀ p, rt (.m p) ((p, .lst (rowsV (rowsOf sts t sl free at_))) :: M0)
def PChoose (k : Nat) : PreG := fun M as rt ex => Fr M fun M0 => ∃ (a b c : Tree) (sl : Sls) (free at_ : Nat) (sts : Starts) (cs : List (Str × Nat)) (ns : List Str) (l : Nat), as = [.d (Tree.choose a b c).dat, .d (slD sl), .d (.int free), .d (.int at_), .d (gsD (stG sts))] ∧
  (Tree.choose a b c).hgt ≤ k ∧ RowsIn cs sts (.choose a b c) sl ns l ∧ ∀ p, rt (.m p) ((p, .lst (rowsV (rowsOf sts (.choose a b c) sl free at_))) :: M0)
/-- xs + ys: a list that may change -/
def CatM (M : Mem) (x y : DV) (R : DV → Mem → Prop) : Prop := ∃ xs ys, LOf M x xs ∧ LOf M y ys ∧ xs.length + ys.length ≤ sizeLine ∧ ∀ p, R (.m p) ((p, .lst ((xs ++ ys).map .d)) :: M)
instance {M : Mem} {sl : Sls} {k : List (Ky × DV) → Prop} : Step (DcP M (.d (slD sl)) k) (k (slM sl)) := ⟨fun h => ⟨slM sl, .dat _, h⟩⟩
theorem needL_mem {cs : List (Str × Nat)} {ns : List Str} {l : Nat} {u : Tree} : ∀ {ts : List Tree}, needL cs ns l ts = none → u ∈ ts → need cs ns l u = none
  | t :: ts, h, hu => by
    rw [needL] at h
    obtain ⟨h1, h2⟩ := or_none h
    rcases List.mem_cons.mp hu with rfl | hu
    · exact h1
    · exact needL_mem h2 hu
theorem RowsIn.part {cs : List (Str × Nat)} {sts : Starts} {t u : Tree} {sl : Sls} {ns : List Str} {l : Nat} (h : RowsIn cs sts t sl ns l) (hd : ∀ x a b, t ≠ .dlet x a b) (hu : u ∈ t.parts) : RowsIn cs sts u sl ns (l + 1) := by
  have hh : u.hgt ≤ t.hgt := by
    have := parts_hgt (t := t) (k := t.hgt - 1) (by have := hgt_pos t; omega) hu
    omega
  refine ⟨?_, h.slots, h.fns, by have := h.few; omega, parts_size h.small hu⟩
  have hn := h.need
  cases t with
  | num i => simp [Tree.parts] at hu
  | name x => simp [Tree.parts] at hu
  | deed w a b =>
    rw [CS.need] at hn
    split at hn
    · cases hn
    obtain ⟨h1, h2⟩ := or_none hn
    simp only [Tree.parts, List.mem_cons, List.not_mem_nil, or_false] at hu
    rcases hu with rfl | rfl
    · exact h1
    · exact h2
  | choose a b c =>
    rw [CS.need] at hn
    split at hn
    · cases hn
    obtain ⟨hn, h3⟩ := or_none hn
    obtain ⟨h1, h2⟩ := or_none hn
    simp only [Tree.parts, List.mem_cons, List.not_mem_nil, or_false] at hu
    rcases hu with rfl | rfl | rfl
    · exact h1
    · exact h2
    · exact h3
  | dlet x a b => exact absurd rfl (hd x a b)
  | call f ts =>
    rw [CS.need] at hn
    split at hn
    · cases hn
    split at hn
    · cases hn
    split at hn
    · exact needL_mem hn hu
    · cases hn
theorem RowsIn.dlet {cs : List (Str × Nat)} {sts : Starts} {x : Str} {a b : Tree} {sl : Sls} {ns : List Str} {l free : Nat} (h : RowsIn cs sts (.dlet x a b) sl ns l) : RowsIn cs sts a sl ns (l + 1) ∧ RowsIn cs sts b (putS sl x free) (ns ++ [x]) (l + 1) := by
  have hn := h.need
  have hf := h.few
  have hs := h.small
  rw [Tree.hgt] at hf
  rw [size] at hs
  rw [CS.need] at hn
  split at hn
  · cases hn
  obtain ⟨h1, h2⟩ := or_none hn
  refine ⟨⟨h1, h.slots, h.fns, by omega, by omega⟩, h2, fun z hz => ?_, h.fns, by have := putS_len (x := x) (v := free) sl; omega, by omega⟩
  rw [putS_look]
  split
  · rfl
  · rename_i hne
    rcases List.mem_append.mp hz with hz | hz
    · exact h.slots z hz
    · exact absurd (List.mem_singleton.mp hz).symm hne
/-! ### a program's rows and starts, function by function -/
def lenFs (fs : List Fn) : Nat := (fs.map fun f => size f.body + 1).sum
theorem lenFs_take {fs : List Fn} {n : Nat} {f : Fn} (h : fs[n]? = some f) : lenFs (fs.take (n + 1)) = lenFs (fs.take n) + size f.body + 1 := by
  unfold lenFs
  rw [List.map_take, List.map_take, sum_take (by rw [List.getElem?_map, h]; rfl), Nat.add_assoc]
theorem lenFs_le {fs : List Fn} {n : Nat} {f : Fn} (h : fs[n]? = some f) : lenFs (fs.take n) + size f.body + 1 ≤ lenFs fs := by
  have e := lenFs_take h
  have e2 := List.sum_append (l₁ := (fs.take (n + 1)).map fun f => size f.body + 1) (l₂ := (fs.drop (n + 1)).map fun f => size f.body + 1)
  rw [← List.map_append, List.take_append_drop] at e2
  unfold lenFs at e ⊢
  omega
theorem startsOf_take {fs : List Fn} {n : Nat} {f : Fn} : ∀ {k : Nat}, fs[n]? = some f → startsOf (fs.take (n + 1)) k = startsOf (fs.take n) k ++ [(f.nm, ⟨k + lenFs (fs.take n), f.ps.length, f.ps.length + lets f.body, high f.body⟩)] := by
  induction fs generalizing n with
  | nil => intro k h; simp at h
  | cons u fs ih =>
    intro k h
    cases n with
    | zero =>
      cases h
      simp [startsOf, lenFs]
    | succ n =>
      have h' : fs[n]? = some f := by simpa using h
      rw [List.take_succ_cons, List.take_succ_cons, startsOf, startsOf, ih h', List.cons_append]
      have e : k + size u.body + 1 + lenFs (fs.take n) = k + lenFs (u :: fs.take n) := by unfold lenFs; rw [List.map_cons, List.sum_cons]; omega
      rw [e]
theorem rowsFs_take {sts : Starts} {fs : List Fn} {n : Nat} {f : Fn} : ∀ {k : Nat}, fs[n]? = some f → rowsFs sts (fs.take (n + 1)) k = rowsFs sts (fs.take n) k ++ (rowsOf sts f.body (slotsOf f.ps) f.ps.length (k + lenFs (fs.take n)) ++ [.back]) := by
  induction fs generalizing n with
  | nil => intro k h; simp at h
  | cons u fs ih =>
    intro k h
    cases n with
    | zero =>
      cases h
      simp [rowsFs, lenFs]
    | succ n =>
      have h' : fs[n]? = some f := by simpa using h
      rw [List.take_succ_cons, List.take_succ_cons, rowsFs, rowsFs, ih h', List.append_assoc, List.cons_append]
      have e : k + size u.body + 1 + lenFs (fs.take n) = k + lenFs (u :: fs.take n) := by unfold lenFs; rw [List.map_cons, List.sum_cons]; omega
      rw [e]
theorem rowsFs_len (sts : Starts) : ∀ (fs : List Fn) (k : Nat), (rowsFs sts fs k).length = lenFs fs
  | [], k => rfl
  | f :: r, k => by
    rw [rowsFs, List.length_append, List.length_cons, rows_len, rowsFs_len sts r]
    unfold lenFs
    rw [List.map_cons, List.sum_cons]; omega
theorem slotsFrom_take {n : Nat} {x : Str} : ∀ {ps : List Str} {k : Nat} {sl : Sls}, ps[n]? = some x → slotsFrom (ps.take (n + 1)) k sl = putS (slotsFrom (ps.take n) k sl) x (k + n) := by
  induction n with
  | zero =>
    intro ps k sl h
    cases ps with
    | nil => simp at h
    | cons y ps => cases h; simp [slotsFrom]
  | succ n ih =>
    intro ps k sl h
    cases ps with
    | nil => simp at h
    | cons y ps =>
      have h' : ps[n]? = some x := by simpa using h
      rw [List.take_succ_cons, List.take_succ_cons, slotsFrom, slotsFrom, ih h', show k + 1 + n = k + (n + 1) by omega]
theorem slotsFrom_len : ∀ (ps : List Str) (k : Nat) (sl : Sls), (slotsFrom ps k sl).length ≤ sl.length + ps.length
  | [], k, sl => by rw [slotsFrom]; exact Nat.le_refl _
  | x :: ps, k, sl => by
    have := slotsFrom_len ps (k + 1) (putS sl x k)
    have := putS_len (x := x) (v := k) sl
    rw [slotsFrom, List.length_cons]; omega
theorem slotsFrom_some {x : Str} : ∀ {ps : List Str} {k : Nat} {sl : Sls}, (x ∈ ps ∨ (lookS sl x).isSome = true) → (lookS (slotsFrom ps k sl) x).isSome = true
  | [], k, sl, h => by
    rcases h with h | h
    · simp at h
    · rw [slotsFrom]; exact h
  | y :: ps, k, sl, h => by
    rw [slotsFrom]
    refine slotsFrom_some ?_
    rw [putS_look]
    by_cases e : y = x
    · exact .inr (by rw [if_pos e]; rfl)
    · rcases h with h | h
      · rcases List.mem_cons.mp h with h | h
        · exact absurd h.symm e
        · exact .inl h
      · exact .inr (by rw [if_neg e]; exact h)
theorem startsOf_some {x : Str} : ∀ {fs : List Fn} {k : Nat}, (lookF fs x).isSome = true → (lookT (startsOf fs k) x).isSome = true
  | [], k, h => by cases h
  | f :: r, k, h => by
    unfold lookF at h
    unfold startsOf lookT
    split
    · rfl
    · rename_i hne
      rw [if_neg hne] at h
      exact startsOf_some h
theorem startsOf_names : ∀ (fs : List Fn) (k : Nat), (startsOf fs k).map (·.1) = fs.map Fn.nm
  | [], k => rfl
  | f :: r, k => by rw [startsOf, List.map_cons, List.map_cons, startsOf_names r]
def gsM (gs : List (Str × GS)) : List (Ky × DV) := (gs.map fun q => ((.inr q.1 : Ky), q.2.dat)).map fun kv => (kv.1, DV.d kv.2)
theorem gsM_put {gs : List (Str × GS)} {x : Str} {g : GS} (h : x ∉ gs.map (·.1)) : putKD (gsM gs) (.inr x) (.d g.dat) = gsM (gs ++ [(x, g)]) := by
  have e : ((gsM gs).any fun kv => decide (kv.1 = (.inr x : Ky))) = false := by
    rw [List.any_eq_false]
    intro kv hk
    unfold gsM at hk
    rw [List.map_map] at hk
    obtain ⟨g, hg, rfl⟩ := List.mem_map.mp hk
    simp only [Function.comp, decide_eq_true_eq]
    exact fun z => h (List.mem_map.mpr ⟨g, hg, Sum.inr.inj z⟩)
  unfold putKD
  rw [e, if_neg (by decide)]
  simp [gsM]
theorem gsM_len (gs : List (Str × GS)) : (gsM gs).length = gs.length := by simp [gsM]
theorem startsOf_len (fs : List Fn) (k : Nat) : (startsOf fs k).length = fs.length := by
  have := congrArg List.length (startsOf_names fs k)
  simpa using this
def PSmith (CC : Addr) (cs : Ex → Addr) : PreG := fun M as rt ex => ∃ fs : List Fn, as = [.d (.lst (fs.map Fn.dat))] ∧ FsOk fs ∧ (∀ f ∈ fs, numsOk f.body) ∧ lenFs fs ≤ 1000000 ∧ match checkL (countsOf fs) [] fs with
  | some x => ex (.ref (cs x)) M
  | none => ∀ c dx, rt (.m c) ((c, .ins CC dx (codeF (rowsD (smithR fs)) (gsD (stG (startsOf fs 0))))) :: M)
/-! ### a run of rows that were made -/
mutual
theorem rows_push (sts : Starts) {i : Int} : ∀ (t : Tree) (sl : Sls) (free k : Nat), numsOk t → Row.push i ∈ rowsOf sts t sl free k → Small i
  | .num j, sl, free, k, hn, h => by
    rw [rowsOf] at h
    have h := List.mem_singleton.mp h
    cases h
    rw [numsOk] at hn
    exact hn
  | .name x, sl, free, k, hn, h => by
    rw [rowsOf] at h
    have h := List.mem_singleton.mp h
    cases h
  | .deed w a b, sl, free, k, hn, h => by
    rw [numsOk] at hn
    rw [rowsOf] at h
    rcases List.mem_append.mp h with h | h
    · exact rows_push sts a _ _ _ hn.1 h
    rcases List.mem_append.mp h with h | h
    · exact rows_push sts b _ _ _ hn.2 h
    · cases List.mem_singleton.mp h
  | .choose a b c, sl, free, k, hn, h => by
    rw [numsOk] at hn
    rw [rowsOf] at h
    rcases List.mem_append.mp h with h | h
    · exact rows_push sts a _ _ _ hn.1 h
    rcases List.mem_cons.mp h with h | h
    · cases h
    rcases List.mem_append.mp h with h | h
    · exact rows_push sts b _ _ _ hn.2.1 h
    rcases List.mem_cons.mp h with h | h
    · cases h
    · exact rows_push sts c _ _ _ hn.2.2 h
  | .dlet x a b, sl, free, k, hn, h => by
    rw [numsOk] at hn
    rw [rowsOf] at h
    rcases List.mem_append.mp h with h | h
    · exact rows_push sts a _ _ _ hn.1 h
    rcases List.mem_cons.mp h with h | h
    · cases h
    · exact rows_push sts b _ _ _ hn.2 h
  | .call f ts, sl, free, k, hn, h => by
    rw [numsOk] at hn
    rw [rowsOf] at h
    rcases List.mem_append.mp h with h | h
    · exact rowsL_push sts ts _ _ _ hn h
    · have h := List.mem_singleton.mp h
      split at h <;> cases h
theorem rowsL_push (sts : Starts) {i : Int} : ∀ (ts : List Tree) (sl : Sls) (free k : Nat), numsOkL ts → Row.push i ∈ rowsL sts ts sl free k → Small i
  | [], sl, free, k, hn, h => by
    rw [rowsL] at h
    exact absurd h (by simp)
  | t :: ts, sl, free, k, hn, h => by
    rw [numsOkL] at hn
    rw [rowsL] at h
    rcases List.mem_append.mp h with h | h
    · exact rows_push sts t _ _ _ hn.1 h
    · exact rowsL_push sts ts _ _ _ hn.2 h
end
theorem rowsFs_push (sts : Starts) {i : Int} : ∀ (fs : List Fn) (k : Nat), (∀ f ∈ fs, numsOk f.body) → Row.push i ∈ rowsFs sts fs k → Small i
  | [], k, hn, h => by
    rw [rowsFs] at h
    exact absurd h (by simp)
  | f :: r, k, hn, h => by
    rw [rowsFs] at h
    rcases List.mem_append.mp h with h | h
    · exact rows_push sts _ _ _ _ (hn f (by simp)) h
    rcases List.mem_cons.mp h with h | h
    · cases h
    · exact rowsFs_push sts r _ (fun g hg => hn g (by simp [hg])) h
theorem startsOf_cnt : ∀ (fs : List Fn) (k : Nat), cntG (stG (startsOf fs k)) = fs.map fun f => (f.nm, f.ps.length)
  | [], k => rfl
  | f :: r, k => by
    have ih := startsOf_cnt r (k + size f.body + 1)
    rw [startsOf, List.map_cons, ← ih]
    rfl
theorem startsOf_get {x : Str} {f : Fn} : ∀ {fs : List Fn} {k : Nat}, lookF fs x = some f → ∃ s, lookT (startsOf fs k) x = some s ∧ s.cnt = f.ps.length ∧ s.room = f.ps.length + lets f.body
  | [], k, h => by cases h
  | g :: r, k, h => by
    unfold lookF at h
    unfold startsOf lookT
    by_cases e : g.nm = x
    · rw [if_pos e] at h ⊢
      cases h
      exact ⟨_, rfl, rfl, rfl⟩
    · rw [if_neg e] at h ⊢
      exact startsOf_get h
/-- run, for a program's own rows: what its trees tell -/
theorem prun_mk {CC : Addr} {cs : Ex → Addr} {M : Mem} {i : Nat} {c dx : Addr} {fs : List Fn} {nm : Str} {vs : List Int} {fuel : Int} {rt : DV → Mem → Prop} {ex : Value → Mem → Prop} (hM : M[i]? = some (c, .ins CC dx (codeF (rowsD (smithR fs)) (gsD (stG (startsOf fs 0))))))
    (wf : FsWf fs) (nd : (fs.map Fn.nm).Nodup) (hl : fs.length ≤ 1000) (hv : ∀ v ∈ vs, Small v) (hvl : vs.length ≤ 1000000)
    (hp : match startE (countsOf fs) nm vs.length with
      | some x => ex (.ref (cs x)) M
      | none => rt (.d (rsD (callF fs fuel 20 nm vs 0))) M) : PRun CC cs M [.m c, .d (.str nm), .d (.lst (vs.map .int)), .d (.int fuel)] rt ex := by
  have hcnt : cntG (stG (startsOf fs 0)) = countsOf fs := by rw [startsOf_cnt, counts_map nd]
  refine ⟨c, i, dx, smithR fs, stG (startsOf fs 0), nm, vs, fuel, rfl, hM, fun j hj => rowsFs_push _ fs 0 wf.nums hj, hv, ?_, ?_, hvl, ?_⟩
  · unfold stG
    rw [List.map_map, show ((fun x : Str × GS => x.1) ∘ fun q : Str × Start => (q.1, q.2.gs)) = fun q : Str × Start => q.1 from rfl, startsOf_names]
    exact nd
  · unfold stG
    rw [List.length_map, startsOf_len]; exact hl
  · rw [hcnt]
    cases hs : startE (countsOf fs) nm vs.length with
    | some x => rw [hs] at hp; exact hp
    | none =>
      rw [hs] at hp
      have hlk : ∃ fn', lookF fs nm = some fn' ∧ fn'.ps.length = vs.length := by
        unfold startE at hs
        cases ql : lookC (countsOf fs) nm with
        | none => rw [ql] at hs; cases hs
        | some k =>
          simp only [ql] at hs
          obtain ⟨g, g1, g2⟩ := wf.look nm k ql
          refine ⟨g, g1, ?_⟩
          by_cases hk : vs.length = k
          · omega
          · rw [if_neg hk] at hs; cases hs
      obtain ⟨f, hf, hfl⟩ := hlk
      obtain ⟨s, h1, h2, h3⟩ := startsOf_get (k := 0) hf
      refine ⟨s.gs, _, by rw [stG_look, h1]; rfl, ?_, ?_, hp⟩
      · have a := (linked wf).hi nm f hf
        show s.room ≤ 100000
        omega
      · by_cases h0 : (0 : Int) = fuel
        · refine .inl ⟨h0, ?_⟩
          rw [callF, if_pos (by exact h0)]
        · exact .inr ⟨h0, smith_ends wf hf h1 hfl.symm h0⟩
end CS

/-! CsMin: min of three. -/
namespace CS
open PySem L2
theorem cd_min3 {K : PySem.W.Frag} : CD K (rNuC3 nuMin3) (fun as M R => ∃ i j k, as = [.d (.int i), .d (.int j), .d (.int k)] ∧ R (.d (.int (min (min i j) k))) M) := by
  rintro S F0 H0 F H M σ ds as vs R Q I o ⟨i, j, k, rfl, g⟩ q
  cases o with
  | cons o1 o2 =>
    cases o2 with
    | cons o2 o3 =>
      cases o3 with
      | cons o3 o4 =>
        cases o4
        cases o1
        cases o2
        cases o3
        refine ⟨.int i, .int j, .int k, .int (min (min i j) k), rfl, ?_, q _ F H M _ (.refl _) I (VOk.dat (.int _)) g⟩
        have e1 : nuMin2 (.int i) (.int j) = some (.int (min i j)) := by
          show (some (decide (j < i))).map _ = _
          rw [Option.map_some]
          by_cases h : j < i
          · simp only [h, decide_true, if_true]; congr 2; omega
          · simp only [h, decide_false, Bool.false_eq_true, if_false]; congr 2; omega
        have e2 : nuMin2 (.int (min i j)) (.int k) = some (.int (min (min i j) k)) := by
          show (some (decide (k < min i j))).map _ = _
          rw [Option.map_some]
          by_cases h : k < min i j
          · simp only [h, decide_true, if_true]; congr 2; omega
          · simp only [h, decide_false, Bool.false_eq_true, if_false]; congr 2; omega
        show (nuMin2 (.int i) (.int j)).bind _ = _
        rw [e1]
        exact e2
section
variable {X : Cx} {W : WX} {a b c : Expr} {ds : Slots} {M : Mem} {pos p : Pos} {R : DV → Mem → Prop} {Xp : Value → Mem → Prop} {V' L G B : List Str}
def A3 (dvs : List DV) (k : Int → Int → Int → Prop) : Prop := ∃ x y z, dvs = [.d (.int x), .d (.int y), .d (.int z)] ∧ k x y z
instance {x y z : Int} {k : Int → Int → Int → Prop} : Step (A3 [.d (.int x), .d (.int y), .d (.int z)] k) (k x y z) := ⟨fun h => ⟨x, y, z, rfl, h⟩⟩
instance [cc : Cc X] [k : Kc X V' L G B] [m : MmC B "min"] [s : NS a] [s2 : NS b] [s3 : NS c] : Step (HE X W (.Call (.Name "min" p) [a, b, c] [] pos) ds M R Xp) (HA X W [a, b, c] ds M (fun as M1 => A3 as fun i j k => R (.d (.int (min (min i j) k))) M1) Xp) :=
  ⟨fun h => he_B (call_min3Nu cc.h) cd_min3 k.k m.h (by decide +kernel) h (s.h [b, c] X.env) ((inferInstance : NSs [b, c]).back pos X.env)⟩
end
end CS

/-! CsRev: list(..) of an iterator that stands: reversed(list). -/
namespace CS
open PySem PySem.Spec PyProof.Rows L2
section
variable {prog : Program} {w : World} {A : Around} {E : Value → Shared → Prop} {s : Shared} {T : String} {I : Addr} {fp wr : List Addr} {n : Nat} {P : Nat → Value → Prop} {St : Nat → Heap → Prop}
theorem itl_extend {R : Result → Shared → Prop} (W : Walks prog w A.in1 I fp wr n P St) (hT : s.TypeIs (.ref I) T) (n1 : (Value.type T == Value.type "list") = false) (n2 : (Value.type T == Value.type "tuple") = false)
    (hint : ∀ (E : Value → Shared → Prop) (Q : Bool → Shared → Prop), (∀ b, Q b s) → wpAny (model prog w) A.in1 (Builtin.List.listLengthHint (.ref I)) Q E s) (hst : St 0 s.heap) (S : Addr) (hSf : S ∉ fp) (hI : I ∈ fp) (res : Value) (c₀ : Nat)
    (hS : s.heap.get? S = some { cls := .type "list", data := .seq #[] c₀ })
    (hR : ∀ h' tk acc' c', (∀ b o, b ≠ S → b ∉ wr → s.heap.get? b = some o → h'.get? b = some o) → h'.get? S = some { cls := .type "list", dict := none, data := .seq acc' c', slots := #[] } → ItemsOf P acc' n → R (.ok (.ret res)) { s with heap := h', toks := tk }) (hn : n ≤ sizeLine) :
    wpAny (model prog w) A.in1 (Builtin.List.listExtendWith (.ref S) (.ref I) res)
      (fun fin s' => match fin with | .done f => R (.ok f) s' | .again c' => c'.quiet = true ∧ codeAny (model prog w) A c' R s') (fun e s' => R (.error e) s') s := by
  have hSI : S ≠ I := fun e => hSf (e ▸ hI)
  have key : ∀ (h : Heap) (c₁ tk : Nat), St 0 h → (∀ b o, b ≠ S → s.heap.get? b = some o → h.get? b = some o) →
      h.get? S = some { cls := .type "list", data := .seq #[] c₁ } → codeAny (model prog w) A (.builtin "list.extend.loop" ⟨[.ref S, .ref I, res], []⟩) R { s with heap := h, toks := tk } := by
    intro h c₁ tk hst hk hS₁
    refine codeAny_extend_loopS W.toS hn S hSf res n 0 _ #[] c₁ rfl (Nat.zero_le _) hst hS₁ (ItemsOf.nil _) fun s' acc' c' hm hS' hacc => ?_
    rw [Moved.eq_with hm]
    refine hR s'.heap s'.toks acc' c' (fun b o hb hw e => hm.heap b o (fun hmem => ?_) (hk b o hb e)) hS' hacc
    rcases List.mem_cons.mp hmem with e' | hmem
    · exact hb e'
    · exact hw hmem
  unfold Builtin.List.listExtendWith
  refine wpAny_bind (wpAny_typeOf (T := T) hT ?_)
  have h1 : Builtin.List.listSameRef (.ref S) (.ref I) = false := by simp [Builtin.List.listSameRef, hSI]
  simp only [h1, n1, n2, Bool.or_false, Bool.false_eq_true, if_false]
  refine wpAny_bind (W.self 0 s _ _ hst ?_)
  refine wpAny_bind (wpAny_holding (hint _ _ fun b => ?_))
  refine wpAny_ite_split (fun _ => ?_) (fun _ => wpAny_pure ⟨plainId_quiet PySem.F.plain_extend_loop _, key _ c₀ s.toks hst (fun b o _ e => e) hS⟩)
  refine wpAny_bind (wpAny_rule ?_)
  refine wpAny_bind ?_
  show wpAny _ _ (updateSeq S (·.push .none) >>= fun _ => updateSeq S (·.pop)) _ _ _
  refine wpAny_bind (wpAny_updateSeq hS rfl ?_)
  have hS₂ := Heap.get?_update_self (Obj.mapSeq (·.push Value.none)) hS rfl
  refine wpAny_updateSeq (hz := by seq_fits) hS₂ rfl ?_
  have hS₃ := Heap.get?_update_self (Obj.mapSeq (·.pop)) hS₂ rfl
  refine wpAny_pure ⟨plainId_quiet PySem.F.plain_extend_loop _, key _ _ _ ?_ (fun b o hb e => ?_) hS₃⟩
  · refine W.frame 0 _ _ hst fun b hb o e => ?_
    have hbS : b ≠ S := fun h => hSf (h ▸ hb)
    exact (Heap.get?_update_other _ _ (Ne.symm hbS)).trans ((Heap.get?_update_other _ _ (Ne.symm hbS)).trans e)
  · exact (Heap.get?_update_other _ _ (Ne.symm hb)).trans ((Heap.get?_update_other _ _ (Ne.symm hb)).trans e)
theorem itl_init {R : Result → Shared → Prop} (W : Walks prog w A.in1 I fp wr n P St) (hT : ∀ s : Shared, St 0 s.heap → s.TypeIs (.ref I) T) (n1 : (Value.type T == Value.type "list") = false) (n2 : (Value.type T == Value.type "tuple") = false)
    (hint : ∀ (s : Shared) (E : Value → Shared → Prop) (Q : Bool → Shared → Prop), St 0 s.heap → (∀ b, Q b s) → wpAny (model prog w) A.in1 (Builtin.List.listLengthHint (.ref I)) Q E s) (hst : St 0 s.heap) (S : Addr) (hSf : S ∉ fp) (hI : I ∈ fp)
    (hS : s.heap.get? S = some { cls := .type "list", data := .seq #[] })
    (hR : ∀ h' tk acc' c', (∀ b o, b ≠ S → b ∉ wr → s.heap.get? b = some o → h'.get? b = some o) → h'.get? S = some { cls := .type "list", dict := none, data := .seq acc' c', slots := #[] } → ItemsOf P acc' n → R (.ok (.ret .none)) { s with heap := h', toks := tk }) (hn : n ≤ sizeLine) :
    wpAny (model prog w) A.in1 (Builtin.«list.__init__» ⟨[.ref S, .ref I], []⟩)
      (fun fin s' => match fin with | .done f => R (.ok f) s' | .again c' => c'.quiet = true ∧ codeAny (model prog w) A c' R s') (fun e s' => R (.error e) s') s := by
  show wpAny _ _ (do let old ← Builtin.List.listItems (.ref S); Builtin.List.listUpdate (.ref S) (fun _ => #[]); letGo old.toList.reverse; Builtin.List.listExtendWith (.ref S) (.ref I) .none) _ _ s
  refine wpAny_bind ?_
  unfold Builtin.List.listItems
  refine wpAny_bind (wpAny_seqItems hS rfl (wpAny_pure ?_))
  show wpAny _ _ (updateSeq S (fun _ => #[]) >>= fun _ => letGo (#[] : Array Value).toList.reverse >>= fun _ => Builtin.List.listExtendWith (.ref S) (.ref I) .none) _ _ s
  refine wpAny_bind (wpAny_updateSeq hS rfl ?_)
  have hS₂ := Heap.get?_update_self (Obj.mapSeq (fun _ => (#[] : Array Value))) hS rfl
  have oth : ∀ b o, b ≠ S → s.heap.get? b = some o → (s.heap.update S (Obj.mapSeq (fun _ => (#[] : Array Value)))).get? b = some o :=
    fun b o hb e => (Heap.get?_update_other _ _ (Ne.symm hb)).trans e
  refine wpAny_bind (wpAny_letGo ?_)
  have hst2 : St 0 (s.heap.update S (Obj.mapSeq (fun _ => (#[] : Array Value)))) := W.frame 0 _ _ hst fun b hb o e => oth b o (fun h => hSf (h ▸ hb)) e
  refine itl_extend W (hT _ hst2) n1 n2 (fun E Q h => hint _ E Q hst2 h) hst2 S hSf hI .none _ hS₂ (fun h' tk acc' c' hk hS' hacc => ?_) hn
  exact hR h' tk acc' c' (fun b o hb hw e => hk b o hb hw (oth b o hb e)) hS' hacc
/-- list(it), it an iterator that stands -/
theorem itl_call {Q : Value → Shared → Prop} (W : Walks prog w A.in1.in1 I fp wr n P St) (hT : ∀ s : Shared, St 0 s.heap → s.TypeIs (.ref I) T) (n1 : (Value.type T == Value.type "list") = false) (n2 : (Value.type T == Value.type "tuple") = false)
    (hint : ∀ (s : Shared) (E : Value → Shared → Prop) (Q : Bool → Shared → Prop), St 0 s.heap → (∀ b, Q b s) → wpAny (model prog w) A.in1.in1 (Builtin.List.listLengthHint (.ref I)) Q E s) (hst : St 0 s.heap) (hfp : ∀ b ∈ fp, b < s.heap.objs.size) (hI : I ∈ fp)
    (hQ : ∀ h' tk acc' c', (∀ b o, b ∉ wr → s.heap.get? b = some o → h'.get? b = some o) → h'.get? s.heap.objs.size = some { cls := .type "list", dict := none, data := .seq acc' c', slots := #[] } → ItemsOf P acc' n → Q (.ref s.heap.objs.size) { s with heap := h', toks := tk }) (hn : n ≤ sizeLine) :
    wpAny (model prog w) A (call (.type "list") [.ref I]) Q E s := by
  have hSf : s.heap.objs.size ∉ fp := fun hm => Nat.lt_irrefl _ (hfp _ hm)
  refine callType_codes (Q₁ := fun obj s₁ => obj = .ref s.heap.objs.size ∧ s₁ = { s with heap := s.heap.push { cls := .type "list", data := .seq #[] } }) PySem.F.called_list (PySem.F.typeCall_list_1 _) PySem.F.entry_list_init
    (code_list_new _ ⟨rfl, rfl⟩) fun obj s₁ h₁ => ?_
  obtain ⟨rfl, rfl⟩ := h₁
  have hS : (s.heap.push { cls := .type "list", data := .seq #[] }).get? s.heap.objs.size = some { cls := .type "list", data := .seq #[] } := Heap.get?_push_size _ rfl
  refine ⟨⟨_, hS, rfl⟩, PySem.F.args_list_init_2 _ _, itl_init W hT n1 n2 hint (W.frame 0 _ _ hst fun b _ o e => Heap.get?_push_of_some _ e) _ hSf hI hS (fun h' tk acc' c' hk hS' hacc => ?_) hn⟩
  exact ⟨rfl, hQ h' tk acc' c' (fun b o hw e => hk b o (Nat.ne_of_lt (Heap.lt_size e)) hw (Heap.get?_push_of_some _ e)) hS' hacc⟩
theorem hint_rev {it : Addr} {Q : Bool → Shared → Prop} (hT : s.TypeIs (.ref it) "list_reverseiterator") (h : ∀ b, Q b s) : wpAny (model prog w) A (Builtin.List.listLengthHint (.ref it)) Q E s := by
  unfold Builtin.List.listLengthHint
  refine wpAny_bind (wpAny_specialOf hT RT.nolen_lri ?_)
  show wpAny _ A (specialOf (Value.ref it) (Str.ofString "__length_hint__") >>= _) _ _ _
  refine wpAny_bind (wpAny_specialOf hT RT.hint_lri ?_)
  generalize hid : ("list_reverseiterator.__length_hint__" : String) = id0
  wp_delta
  rw [show splitId id0 = some ("list_reverseiterator", "__length_hint__") from by subst hid; decide +kernel]
  subst hid
  refine wpAny_bind (wpAny_isInstance (b := true) hT (by rw [isSubtype_type]; kernel_rfl) ?_)
  exact wpAny_pure (h _)
theorem call_list_rev {it l : Addr} {items : Array Value} {Q : Value → Shared → Prop} (hh : A.handled = none) (hit : s.heap.IsRevIter it l ((items.size : Int) - 1)) (hl : s.heap.IsList l items) (hne : l ≠ it) (hn : items.size ≤ sizeLine)
    (hQ : ∀ h' tk acc' c', (∀ b o, b ≠ it → s.heap.get? b = some o → h'.get? b = some o) → h'.get? s.heap.objs.size = some { cls := .type "list", dict := none, data := .seq acc' c', slots := #[] } → ItemsOf (fun i v => items[items.size - 1 - i]? = some v) acc' items.size → Q (.ref s.heap.objs.size) { s with heap := h', toks := tk }) :
    wpAny (model prog w) A (call (.type "list") [.ref it]) Q E s := by
  obtain ⟨oi, hoi, _⟩ := id hit
  obtain ⟨ol, hol, _⟩ := id hl
  have e0 : ((items.size : Nat) : Int) - 1 - ((0 : Nat) : Int) = (items.size : Int) - 1 := by omega
  refine itl_call (T := "list_reverseiterator") (Walks.listRev (prog := prog) (w := w) (A := A.in1.in1) hh it l hne items) (fun s st => st.2.1.typeIs) (by decide) (by decide) (fun s E Q st h => hint_rev st.2.1.typeIs h) ⟨Nat.zero_le _, by rw [e0]; exact hit, hl⟩ (fun b hb => ?_) (by simp) (fun h' tk acc' c' hk hS hacc => hQ h' tk acc' c' (fun b o hb e => hk b o (by simpa using hb) e) hS hacc) hn
  rcases List.mem_cons.mp hb with rfl | hb
  · exact Heap.lt_size hoi
  · obtain rfl := List.mem_singleton.mp hb
    exact Heap.lt_size hol
end
section
variable {X : Cx}
/-- list(reversed(x)), x a list: a new list -/
def tLstRev (K : PySem.W.Frag) (te : TE) : TE := fun σ H Q => te σ H fun v H1 => ∃ (a : Addr) (xs : List V), v = .ref a ∧ SqL K H1 a xs ∧ ∀ q, H1 q = none → Q (.ref q) (upd H1 q (.lst xs.reverse))
theorem pe_lstRev {e : Expr} {te : TE} {p p2 pos pos2 : Pos} (hc : X.calm = true) (hg : Gl X "list") (hm : X.mg "list" = none) (hg2 : Gl X "reversed") (hm2 : X.mg "reversed" = none) (he : PE X e te)
    (hs : starEach [e] X.env = (false, eval e X.env) :: starEach [] X.env := by rfl)
    (hs2 : starEach [.Call (.Name "reversed" p2) [e] [] pos2] X.env = (false, eval (.Call (.Name "reversed" p2) [e] [] pos2) X.env) :: starEach [] X.env := by rfl) :
    PE X (.Call (.Name "list" p) [.Call (.Name "reversed" p2) [e] [] pos2] [] pos) (tLstRev X.K te) := by
  refine ⟨fun pins s σ H Q I h => ?_⟩
  refine Call_ (ld_blt I hg hm boot_list (PyProof.Rows.callWith_type1 (args_cons (Call_ (ld_blt I hg2 hm2 PyProof.Rows.boot_reversed (PyProof.Rows.callWith_type1 (args_cons (thn (he.run pins s σ H _ I h) fun u s1 ⟨v, H1, I1, r1, q1⟩ => args_nil ?_) hs) hs rfl))) hs2) hs2 rfl))
  obtain ⟨a, xs, ev, hq, q⟩ := q1
  subst ev
  obtain rfl : u = Value.ref a := r1
  obtain ⟨its, rv, p', hz⟩ := I1.list hq
  refine call_reversed_list p'.isList (args_nil ?_)
  have k0 : ∀ b o, s1.heap.get? b = some o → (s1.heap.push (revObj a ((its.toArray.size : Int) - 1))).get? b = some o := fun b o e => Heap.get?_push_of_some _ e
  have I2 : Inv X pins σ H1 { s1 with heap := s1.heap.push (revObj a ((its.toArray.size : Int) - 1)) } := I1.kept (t' := s1.toks) k0
  have fp := I1.fpOk (H' := H1) (b := s1.heap.objs.size) (Nat.le_refl _) (I1.hok.fresh (Nat.le_refl _))
  have hl := p'.isList
  obtain ⟨ol, hol, _⟩ := id hl
  have hne : a ≠ s1.heap.objs.size := Nat.ne_of_lt (Heap.lt_size hol)
  have hn : its.toArray.size ≤ sizeLine := by rw [List.size_toArray, ← rv.length]; exact hz
  have hlt : s1.heap.objs.size < (s1.heap.push (revObj a ((its.toArray.size : Int) - 1))).objs.size := by
    rw [size_push']
    exact Nat.lt_succ_self _
  refine call_list_rev (s := { s1 with heap := s1.heap.push (revObj a ((its.toArray.size : Int) - 1)) }) (I1.ok.hd hc) ⟨_, Heap.get?_push_size _ rfl, rfl, rfl⟩ (hl.push _) hne hn fun h' tk acc c hk hS hi => ?_
  refine ⟨V.ref _, upd H1 (s1.heap.push (revObj a ((its.toArray.size : Int) - 1))).objs.size (.lst xs.reverse), I2.turnedNew (t' := tk) (ch := [s1.heap.objs.size]) (fun b o hb e => hk b o (by simpa using hb) e) (fun b hb => by obtain rfl := List.mem_singleton.mp hb; exact fp) (Nat.le_refl _)
    (show ObjOk X.prog X.w _ _ _ (.lst xs.reverse) from ⟨by rw [List.length_reverse]; exact hz, acc.toList, c, RT.vals_rev rv hi, by rw [Array.toArray_toList]; exact hS⟩), rfl, q _ (I2.hok.fresh (Nat.le_refl _))⟩
end
section
variable {X : Cx} {W : WX} {e : Expr} {ds : Slots} {M : Mem} {R : DV → Mem → Prop} {Xp : Value → Mem → Prop} {pos p p2 pos2 : Pos} {V L G B : List Str}
theorem he_lstRev (hc : X.calm = true) (k : Kx X V L G B) (m1 : Mm B "list") (m2 : Mm B "reversed") (h : HE X W e ds M (fun x M1 => LstP x fun xs => R (.d (.lst xs.reverse)) M1) Xp)
    (hs : starEach [e] X.env = (false, eval e X.env) :: starEach [] X.env) : HE X W (.Call (.Name "list" p) [.Call (.Name "reversed" p2) [e] [] pos2] [] pos) ds M R Xp :=
  he_of (pe_lstRev hc (k.bl _ m1.mem).1 (k.bl _ m1.mem).2.1 (k.bl _ m2.mem).1 (k.bl _ m2.mem).2.1 (pe_t X e) hs) fun n S F0 H0 F H σ I Q q x => h n S F0 H0 F H σ I _ (fun v F1 H1 M1 dv s1 I1 o1 g1 => by
    obtain ⟨xs, rfl, g⟩ := g1
    have o1 : Rp X.K F1 v (.lst xs) := o1
    cases o1 with
    | @lst a vs _ hF r =>
      refine ⟨a, vs, rfl, .of (I1.fh _ _ hF), fun p hp => ?_⟩
      have y := Ext.lay (.lst vs.reverse) I1.fh hp
      have rr : RpL X.K F1 vs.reverse xs.reverse := by
        have go : ∀ {vs : List L2.V} {xs : List Dat}, RpL X.K F1 vs xs → RpL X.K F1 vs.reverse xs.reverse := by
          intro vs xs h
          induction xs generalizing vs with
          | nil => cases h; exact .nil
          | cons d r ih =>
            cases h with
            | cons a b =>
              rw [List.reverse_cons, List.reverse_cons]
              exact (ih b).append (.cons a .nil)
        exact go r
      exact q _ _ _ M1 _ (s1.trans y.ff) (I1.ext y) (VOk.dat (.lst upd_same (rr.mono y.ff))) g) x
instance (priority := high) [c : Cc X] [k : Kc X V L G B] [m1 : MmC B "list"] [m2 : MmC B "reversed"] [s : NS e] : Step (HE X W (.Call (.Name "list" p) [.Call (.Name "reversed" p2) [e] [] pos2] [] pos) ds M R Xp) (HE X W e ds M (fun x M1 => LstP x fun xs => R (.d (.lst xs.reverse)) M1) Xp) :=
  ⟨fun h => he_lstRev c.h k.k m1.h m2.h h (s.h [] X.env)⟩
/-- x = [..]: a list that may change -/
theorem asgLst {es : List Expr} {x : Str} {i : Nat} {pn : Slots → Mem → Prop} {pr : DV → Mem → Prop} {pb pc : Slots → Mem → Prop} {px : Value → Slots → Mem → Prop} [k : Kc X V L G B] [pl : PlC ds x i] [m : MmC L x]
    (h : HA X W es ds M (fun dvs M1 => dvs.length ≤ 1000 ∧ ∀ q, UpP ds x i (.m q) fun ds' => pn ds' ((q, .lst dvs) :: M1)) (fun cls M1 => px cls ds M1)) : HS X W (.Assign [.Name x p] (.List es p2) pos) ds M ⟨pn, pr, pb, pc, px⟩ :=
  r_set k.k pl.h m.h (he_lstM h) (NC.h _ _ _)
end
end CS

/-! CsLz: list(zip(t, l)), t a tuple, l a list. -/
namespace CS
open PySem PySem.Spec PyProof.Rows L2
/-! ### zip's next, while the pair that it gave out before is kept -/
section
variable {prog : Program} {w : World} {A : Around} {E : Value → Shared → Prop} {s : Shared} {z TI TO T i1 i2 : Addr} {g : Bool} {oT : Obj} {fp1 fp2 : List Addr} {n1 n2 i : Nat} {P1 P2 : Nat → Value → Prop} {St1 St2 : Nat → Heap → Prop}
theorem lz_item {Q : Value → Shared → Prop} (S : ZipSep2 z TI TO i1 i2 fp1 fp2) (D1 : Draws prog w A i1 fp1 n1 P1 St1) (D2 : Draws prog w A i2 fp2 n2 P2 St2) (hz : IsZipHeld s.heap z TI TO T g) (hT : s.heap.get? T = some oT)
    (hTI : IsTupOf2 s.heap TI (.ref i1) (.ref i2)) (t1 : St1 i s.heap) (t2 : St2 i s.heap) (l1 : i < n1) (l2 : i < n2)
    (hQ : ∀ x y h' tk, P1 i x → P2 i y → IsZipHeld h' z TI TO T true → St1 (i + 1) h' → St2 (i + 1) h' → IsTupOf2 h' s.heap.objs.size x y → (∀ c o, c ≠ z → c ≠ i1 → c ≠ i2 → s.heap.get? c = some o → h'.get? c = some o) → Q (.ref s.heap.objs.size) { s with heap := h', toks := tk }) :
    wpAny (model prog w) A (Builtin.«zip.__next__» ⟨[.ref z], []⟩) (fun fin s' => ∃ v, fin = .done (.ret v) ∧ Q v s') E s := by
  obtain ⟨hp, gs, d, tk0, os⟩ := s
  show wpAny _ _ (field (.ref z) 2 >>= _) _ _ _
  refine wpAny_bind (wpAny_field hz rfl (x := .bool false) rfl ?_)
  show wpAny _ _ (field (.ref z) 3 >>= _) _ _ _
  refine wpAny_bind (wpAny_field hz rfl (x := .ref TI) rfl ?_)
  refine wpAny_bind (wpAny_seqItems hTI rfl (wpAny_bind (wpAny_tupleHeld_zip hz hT fun h₁ z₁ s₁ => ?_)))
  simp only [Bool.false_eq_true, if_false]
  refine wpAny_bind ?_
  rw [← Array.forIn_toList]
  simp only [List.forIn_cons, List.forIn_nil]
  refine wpAny_bind (wpAny_bind (wpAny_holding ?_))
  show wpAny _ _ (Builtin.SmallTypes.nextOf (.ref i1) >>= _) _ _ ⟨h₁, gs, d, tk0, os⟩
  refine wpAny_bind (D1.item i _ _ _ l1 (D1.over t1 s₁ S.zf1) fun x p1 tk1 px n1' s₂ => wpAny_pure (wpAny_pure (wpAny_bind (wpAny_bind (wpAny_holding ?_)))))
  replace s₂ : Heap.SameBut i1 h₁ p1 := s₂
  show wpAny _ _ (Builtin.SmallTypes.nextOf (.ref i2) >>= _) _ _ ⟨p1, gs, d, tk1, os⟩
  refine wpAny_bind (D2.item i _ _ _ l2 (D2.over (D2.over t2 s₁ S.zf2) s₂ S.sep1_2) fun y p2 tk2 py n2' s₃ => wpAny_pure (wpAny_pure (wpAny_pure ?_)))
  replace s₃ : Heap.SameBut i2 p1 p2 := s₃
  show wpAny _ _ (newTuple [x, y] >>= _) _ _ _
  refine wpAny_bind (wpAny_newTuple (wpAny_pure ⟨_, rfl, ?_⟩))
  have sz : p2.objs.size = hp.objs.size := by rw [s₃.1, s₂.1, s₁.1]
  have zz : IsZipHeld p2 z TI TO T true := s₃.extBut _ _ S.zi2 (s₂.extBut _ _ S.zi1 z₁)
  have kk : ∀ c o, c ≠ z → c ≠ i1 → c ≠ i2 → hp.get? c = some o → p2.get? c = some o := fun c o c0 c1 c2 e => s₃.extBut _ _ c2 (s₂.extBut _ _ c1 (s₁.extBut _ _ c0 e))
  have a1 : St1 (i + 1) p2 := D1.over n1' s₃ S.sep2_1
  have up : ∀ c o, p2.get? c = some o → (p2.push { cls := .type "tuple", data := .seq #[x, y] }).get? c = some o := fun c o e => Heap.get?_push_of_some _ e
  have tp : IsTupOf2 (p2.push { cls := .type "tuple", data := .seq #[x, y] }) p2.objs.size x y := Heap.get?_push_size _ rfl
  show Q (.ref p2.objs.size) _
  rw [sz] at tp ⊢
  exact hQ x y _ tk2 px py (up _ _ zz) (D1.frame _ _ _ a1 fun b _ o e => up b o e) (D2.frame _ _ _ n2' fun b _ o e => up b o e) tp fun c o c0 c1 c2 e => up c o (kk c o c0 c1 c2 e)
theorem lz_end {Q : PySem.Fin → Shared → Prop} (S : ZipSep2 z TI TO i1 i2 fp1 fp2) (D1 : Draws prog w A i1 fp1 n1 P1 St1) (D2 : Draws prog w A i2 fp2 n2 P2 St2) (hz : IsZipHeld s.heap z TI TO T g) (hT : s.heap.get? T = some oT)
    (hTI : IsTupOf2 s.heap TI (.ref i1) (.ref i2)) (t1 : St1 i s.heap) (t2 : St2 i s.heap) (l1 : i ≤ n1) (l2 : i ≤ n2) (hend : i = n1 ∨ i = n2)
    (hE : ∀ h' tk e, (∀ c o, c ≠ z → c ≠ i1 → c ≠ i2 → s.heap.get? c = some o → h'.get? c = some o) → (∃ o, h'.get? e = some o ∧ o.cls = .type "StopIteration") → E (.ref e) { s with heap := h', toks := tk }) :
    wpAny (model prog w) A (Builtin.«zip.__next__» ⟨[.ref z], []⟩) Q E s := by
  obtain ⟨hp, gs, d, tk0, os⟩ := s
  show wpAny _ _ (field (.ref z) 2 >>= _) _ _ _
  refine wpAny_bind (wpAny_field hz rfl (x := .bool false) rfl ?_)
  show wpAny _ _ (field (.ref z) 3 >>= _) _ _ _
  refine wpAny_bind (wpAny_field hz rfl (x := .ref TI) rfl ?_)
  refine wpAny_bind (wpAny_seqItems hTI rfl (wpAny_bind (wpAny_tupleHeld_zip hz hT fun h₁ z₁ s₁ => ?_)))
  simp only [Bool.false_eq_true, if_false]
  refine wpAny_bind ?_
  rw [← Array.forIn_toList]
  simp only [List.forIn_cons, List.forIn_nil]
  refine wpAny_bind (wpAny_bind (wpAny_holding ?_))
  show wpAny _ _ (Builtin.SmallTypes.nextOf (.ref i1) >>= _) _ _ ⟨h₁, gs, d, tk0, os⟩
  by_cases lt : i < n1
  · refine wpAny_bind (D1.item i _ _ _ lt (D1.over t1 s₁ S.zf1) fun x p1 tk1 px n1' s₂ => wpAny_pure (wpAny_pure (wpAny_bind (wpAny_bind (wpAny_holding ?_)))))
    replace s₂ : Heap.SameBut i1 h₁ p1 := s₂
    show wpAny _ _ (Builtin.SmallTypes.nextOf (.ref i2) >>= _) _ _ ⟨p1, gs, d, tk1, os⟩
    have e2 : i = n2 := by omega
    refine wpAny_bind (D2.done ⟨p1, gs, d, tk1, os⟩ _ _ (by rw [← e2]; exact D2.over (D2.over t2 s₁ S.zf2) s₂ S.sep1_2) fun q e hq he => ?_)
    replace hq : Heap.ExtBut i2 p1 q := hq
    exact hE q tk1 e (fun c o c0 c1 c2 x => hq _ _ c2 (s₂.extBut _ _ c1 (s₁.extBut _ _ c0 x))) he
  · have e1 : i = n1 := by omega
    refine wpAny_bind (D1.done ⟨h₁, gs, d, tk0, os⟩ _ _ (by rw [← e1]; exact D1.over t1 s₁ S.zf1) fun q e hq he => ?_)
    replace hq : Heap.ExtBut i1 h₁ q := hq
    exact hE q tk0 e (fun c o c0 c1 c2 x => hq _ _ c1 (s₁.extBut _ _ c0 x)) he
theorem lz_next {Q : Option Value → Shared → Prop} (S : ZipSep2 z TI TO i1 i2 fp1 fp2) (D1 : Draws prog w A.in1 i1 fp1 n1 P1 St1) (D2 : Draws prog w A.in1 i2 fp2 n2 P2 St2) (hz : IsZipHeld s.heap z TI TO T g) (hT : s.heap.get? T = some oT)
    (hTI : IsTupOf2 s.heap TI (.ref i1) (.ref i2)) (t1 : St1 i s.heap) (t2 : St2 i s.heap) (l1 : i < n1) (l2 : i < n2)
    (hQ : ∀ x y h' tk, P1 i x → P2 i y → IsZipHeld h' z TI TO T true → St1 (i + 1) h' → St2 (i + 1) h' → IsTupOf2 h' s.heap.objs.size x y → (∀ c o, c ≠ z → c ≠ i1 → c ≠ i2 → s.heap.get? c = some o → h'.get? c = some o) → Q (some (.ref s.heap.objs.size)) { s with heap := h', toks := tk }) :
    wpAny (model prog w) A (pyNext (.ref z)) Q E s := by
  have ty : s.TypeIs (.ref z) "zip" := ⟨_, hz, rfl⟩
  unfold pyNext
  exact wpAny_bind (wpAny_attempt (wpAny_callSpecial?_slot (name := Str.ofString "__next__") ty F.slot_zip_next
    (wpAny_call_entry F.slot_zip_next ty F.entry_zip_next (lz_item S D1 D2 hz hT hTI t1 t2 l1 l2 fun x y h' tk a b c d e f k => wpAny_pure (hQ x y h' tk a b c d e f k)) (F.args_zip_next_1 _))))
theorem lz_stop {Q : Option Value → Shared → Prop} (S : ZipSep2 z TI TO i1 i2 fp1 fp2) (D1 : Draws prog w A.in1 i1 fp1 n1 P1 St1) (D2 : Draws prog w A.in1 i2 fp2 n2 P2 St2) (hz : IsZipHeld s.heap z TI TO T g) (hT : s.heap.get? T = some oT)
    (hTI : IsTupOf2 s.heap TI (.ref i1) (.ref i2)) (t1 : St1 i s.heap) (t2 : St2 i s.heap) (l1 : i ≤ n1) (l2 : i ≤ n2) (hend : i = n1 ∨ i = n2)
    (hQ : ∀ h' tk, (∀ c o, c ≠ z → c ≠ i1 → c ≠ i2 → s.heap.get? c = some o → h'.get? c = some o) → Q none { s with heap := h', toks := tk }) : wpAny (model prog w) A (pyNext (.ref z)) Q E s := by
  have ty : s.TypeIs (.ref z) "zip" := ⟨_, hz, rfl⟩
  unfold pyNext
  refine wpAny_bind (wpAny_attempt (wpAny_callSpecial?_slot (name := Str.ofString "__next__") ty F.slot_zip_next
    (wpAny_call_entry F.slot_zip_next ty F.entry_zip_next (lz_end S D1 D2 hz hT hTI t1 t2 l1 l2 hend fun h' tk e hk he => ?_) (F.args_zip_next_1 _))))
  obtain ⟨o, ho, hc⟩ := he
  exact wpAny_bind (wpAny_isInstance (T := "StopIteration") (b := true) ⟨o, ho, hc⟩ isSubtype_stop (wpAny_pure (hQ _ _ hk)))
end
/-! ### list(it), its loop left open -/
section
variable {prog : Program} {w : World} {A : Around} {E : Value → Shared → Prop} {s : Shared} {T : String} {I : Addr} {oI : Obj}
abbrev lobj (acc : Array Value) (c : Nat) : Obj := { cls := .type "list", dict := none, data := .seq acc c, slots := #[] }
theorem itk_extend {R : Result → Shared → Prop} (ho : s.heap.get? I = some oI) (hc : oI.cls = .type T) (n1 : (Value.type T == Value.type "list") = false) (n2 : (Value.type T == Value.type "tuple") = false)
    (self : ∀ (E : Value → Shared → Prop) (Q : Value → Shared → Prop), Q (.ref I) s → wpAny (model prog w) A.in1 (pyIter (.ref I)) Q E s)
    (hint : ∀ (E : Value → Shared → Prop) (Q : Bool → Shared → Prop), (∀ b, Q b s) → wpAny (model prog w) A.in1 (Builtin.List.listLengthHint (.ref I)) Q E s) (S : Addr) (hSI : S ≠ I) (res : Value) (c₀ : Nat) (hS : s.heap.get? S = some (lobj #[] c₀))
    (key : ∀ h c tk, (∀ b o, b ≠ S → s.heap.get? b = some o → h.get? b = some o) → h.get? S = some (lobj #[] c) → codeAny (model prog w) A (.builtin "list.extend.loop" ⟨[.ref S, .ref I, res], []⟩) R { s with heap := h, toks := tk }) :
    wpAny (model prog w) A.in1 (Builtin.List.listExtendWith (.ref S) (.ref I) res)
      (fun fin s' => match fin with | .done f => R (.ok f) s' | .again c' => c'.quiet = true ∧ codeAny (model prog w) A c' R s') (fun e s' => R (.error e) s') s := by
  unfold Builtin.List.listExtendWith
  refine wpAny_bind (wpAny_typeOf (T := T) ⟨oI, ho, hc⟩ ?_)
  have h1 : Builtin.List.listSameRef (.ref S) (.ref I) = false := by simp [Builtin.List.listSameRef, hSI]
  simp only [h1, n1, n2, Bool.or_false, Bool.false_eq_true, if_false]
  refine wpAny_bind (self _ _ (wpAny_bind (wpAny_holding (hint _ _ fun b => ?_))))
  refine wpAny_ite_split (fun _ => ?_) (fun _ => wpAny_pure ⟨plainId_quiet PySem.F.plain_extend_loop _, key s.heap c₀ s.toks (fun b o _ e => e) hS⟩)
  refine wpAny_bind (wpAny_rule (wpAny_bind ?_))
  show wpAny _ _ (updateSeq S (·.push .none) >>= fun _ => updateSeq S (·.pop)) _ _ _
  refine wpAny_bind (wpAny_updateSeq hS rfl ?_)
  have hS₂ := Heap.get?_update_self (Obj.mapSeq (·.push Value.none)) hS rfl
  refine wpAny_updateSeq (hz := by seq_fits) hS₂ rfl (wpAny_pure ⟨plainId_quiet PySem.F.plain_extend_loop _, key _ _ _ (fun b o hb e => ?_) (Heap.get?_update_self (Obj.mapSeq (·.pop)) hS₂ rfl)⟩)
  exact (Heap.get?_update_other _ _ (Ne.symm hb)).trans ((Heap.get?_update_other _ _ (Ne.symm hb)).trans e)
theorem itk_call {Q : Value → Shared → Prop} (ho : s.heap.get? I = some oI) (hc : oI.cls = .type T) (n1 : (Value.type T == Value.type "list") = false) (n2 : (Value.type T == Value.type "tuple") = false)
    (self : ∀ (s' : Shared) (E : Value → Shared → Prop) (Q : Value → Shared → Prop), s'.heap.get? I = some oI → Q (.ref I) s' → wpAny (model prog w) A.in1.in1 (pyIter (.ref I)) Q E s')
    (hint : ∀ (s' : Shared) (E : Value → Shared → Prop) (Q : Bool → Shared → Prop), s'.heap.get? I = some oI → (∀ b, Q b s') → wpAny (model prog w) A.in1.in1 (Builtin.List.listLengthHint (.ref I)) Q E s')
    (key : ∀ h c tk, (∀ b o, s.heap.get? b = some o → h.get? b = some o) → h.get? s.heap.objs.size = some (lobj #[] c) → codeAny (model prog w) A.in1 (.builtin "list.extend.loop" ⟨[.ref s.heap.objs.size, .ref I, .none], []⟩) (wants (fun r s₂ => r = .none ∧ Q (.ref s.heap.objs.size) s₂) E) { s with heap := h, toks := tk }) :
    wpAny (model prog w) A (call (.type "list") [.ref I]) Q E s := by
  have hSI : s.heap.objs.size ≠ I := Nat.ne_of_gt (Heap.lt_size ho)
  refine callType_codes (Q₁ := fun obj s₁ => obj = .ref s.heap.objs.size ∧ s₁ = { s with heap := s.heap.push (lobj #[] 0) }) PySem.F.called_list (PySem.F.typeCall_list_1 _) PySem.F.entry_list_init (code_list_new _ ⟨rfl, rfl⟩) fun obj s₁ e₁ => ?_
  obtain ⟨rfl, rfl⟩ := e₁
  have hS : (s.heap.push (lobj #[] 0)).get? s.heap.objs.size = some (lobj #[] 0) := Heap.get?_push_size _ rfl
  refine ⟨⟨_, hS, rfl⟩, PySem.F.args_list_init_2 _ _, ?_⟩
  show wpAny _ _ (do let old ← Builtin.List.listItems (.ref s.heap.objs.size); Builtin.List.listUpdate (.ref s.heap.objs.size) (fun _ => #[]); letGo old.toList.reverse; Builtin.List.listExtendWith (.ref s.heap.objs.size) (.ref I) .none) _ _ _
  refine wpAny_bind ?_
  unfold Builtin.List.listItems
  refine wpAny_bind (wpAny_seqItems hS rfl (wpAny_pure ?_))
  show wpAny _ _ (updateSeq s.heap.objs.size (fun _ => #[]) >>= fun _ => letGo (#[] : Array Value).toList.reverse >>= fun _ => Builtin.List.listExtendWith (.ref s.heap.objs.size) (.ref I) .none) _ _ _
  refine wpAny_bind (wpAny_updateSeq hS rfl (wpAny_bind (wpAny_letGo ?_)))
  have hS₂ := Heap.get?_update_self (Obj.mapSeq (fun _ => (#[] : Array Value))) hS rfl
  have oth : ∀ b o, s.heap.get? b = some o → ((s.heap.push (lobj #[] 0)).update s.heap.objs.size (Obj.mapSeq (fun _ => (#[] : Array Value)))).get? b = some o :=
    fun b o e => (Heap.get?_update_other _ _ (Nat.ne_of_gt (Heap.lt_size e))).trans (Heap.get?_push_of_some _ e)
  have ho2 := oth _ _ ho
  refine itk_extend (A := A.in1) ho2 hc n1 n2 (fun E Q q => self _ E Q ho2 q) (fun E Q q => hint _ E Q ho2 q) _ hSI .none _ hS₂ fun h c tk hk hs => ?_
  refine codeAny_mono (key h c tk (fun b o e => hk b o (Nat.ne_of_lt (Heap.lt_size e)) (oth b o e)) hs) fun r s₂ hr => ?_
  cases r with
  | error e => exact hr
  | ok fl =>
    cases fl with
    | ret r => exact hr
    | _ => exact hr
end
theorem nolen_zip : typeLookup (.type "zip") "__len__" = pure none := by rw [typeLookup_type, builtinLookup_eq_fast]; kernel_rfl
theorem nohint_zip : typeLookup (.type "zip") "__length_hint__" = pure none := by rw [typeLookup_type, builtinLookup_eq_fast]; kernel_rfl
theorem hint_zip {prog : Program} {w : World} {A : Around} {E : Value → Shared → Prop} {s : Shared} {z : Addr} {Q : Bool → Shared → Prop} (ty : s.TypeIs (.ref z) "zip") (h : ∀ b, Q b s) : wpAny (model prog w) A (Builtin.List.listLengthHint (.ref z)) Q E s := by
  unfold Builtin.List.listLengthHint
  refine wpAny_bind (wpAny_specialOf ty nolen_zip ?_)
  show wpAny _ A (specialOf (Value.ref z) (Str.ofString "__length_hint__") >>= _) _ _ _
  exact wpAny_bind (wpAny_specialOf ty nohint_zip (wpAny_pure (h _)))
/-! ### the loop, with what a state knows -/
/-- the pairs, one new tuple each, gathered in the list at S -/
def LzGo : List (V × V) → Addr → List V → Hp → VK → Prop
  | [], S, acc, H, Q => Q (.ref S) (upd H S (.lst acc))
  | p :: r, S, acc, H, Q => ∀ T, H T = none → T ≠ S → LzGo r S (acc ++ [.ref T]) (upd H T (.tup [p.1, p.2])) Q
def LzSt (z TI TO i1 i2 a b S : Addr) (i : Nat) (h : Heap) : Prop := IsTupOf2 h TI (.ref i1) (.ref i2) ∧ (∃ x y, IsTupOf2 h TO x y) ∧ h.IsTupleIter i1 a i ∧ h.IsListIter i2 b i ∧
  (IsZip h z TI TO .none ∨ ∃ T g oT, IsZipHeld h z TI TO T g ∧ h.get? T = some oT ∧ T ∉ cells z TI TO i1 i2 ∧ T ≠ S)
section
variable {X : Cx} {pins : List (Addr × Obj)} {σ : L2.St} {a b z TI TO i1 i2 S : Addr} {xs ys : List V}
theorem lz_loop (hc : X.calm = true) (D : ZipApart z TI TO i1 i2 a b) (hSc : S ∉ cells z TI TO i1 i2) {E : Value → Shared → Prop} {Qv : Value → Shared → Prop} {Q : VK} :
    ∀ (ps : List (V × V)) (i : Nat) (s : Shared) (H : Hp) (acc : List V), (xs.drop i).zip (ys.drop i) = ps → i ≤ xs.length → i ≤ ys.length → acc.length ≤ i → Inv X pins σ (upd H S (.lst acc)) s → H S = none → (∀ c ∈ cells z TI TO i1 i2, FpOk X pins H c) → LzSt z TI TO i1 i2 a b S i s.heap →
    H a = some (.tup xs) → H b = some (.lst ys) → LzGo ps S acc H Q → (∀ s' H', Inv X pins σ H' s' → Q (.ref S) H' → Qv (.ref S) s') →
    codeAny (model X.prog X.w) X.A.in1 (.builtin "list.extend.loop" ⟨[.ref S, .ref z, .none], []⟩) (wants (fun r s₂ => r = .none ∧ Qv (.ref S) s₂) E) s := by
  have Sp := sep_of D
  have inC : ∀ c, c ∈ cells z TI TO i1 i2 ↔ c = z ∨ c = TI ∨ c = TO ∨ c = i1 ∨ c = i2 := fun c => by simp [cells]
  have sameS : ∀ {H : Hp} {acc : List V}, H S = none → Same H (upd H S (.lst acc)) := fun n c o e => by rw [upd_ne (ne_of_none e n)]; exact e
  have fpS : ∀ {H : Hp} {acc : List V}, (∀ c ∈ cells z TI TO i1 i2, FpOk X pins H c) → ∀ c ∈ cells z TI TO i1 i2, FpOk X pins (upd H S (.lst acc)) c := fun hf c hcm => ⟨by rw [upd_ne (fun e : c = S => hSc (by rw [← e]; exact hcm))]; exact (hf c hcm).1, (hf c hcm).2⟩
  intro ps
  induction ps with
  | nil =>
    intro i s H acc hps lx ly hal I hS hf st sx sy go fin
    obtain ⟨q2, ⟨x0, y0, q3⟩, q4, q5, hz⟩ := st
    have hend : i = xs.length ∨ i = ys.length := by
      rcases List.zip_eq_nil_iff.mp hps with h | h
      · have := List.drop_eq_nil_iff.mp h; omega
      · have := List.drop_eq_nil_iff.mp h; omega
    obtain ⟨us, ru, pu, _⟩ := I.tuple (.of (sameS hS _ _ sx))
    obtain ⟨ws, rw', pw, _⟩ := I.list (.of (sameS hS _ _ sy))
    have e1 : us.toArray.size = xs.length := by rw [List.size_toArray, ← ru.length]
    have e2 : ws.toArray.size = ys.length := by rw [List.size_toArray, ← rw'.length]
    have calm : X.A.in1.in1.in1.handled = none := I.ok.hd hc
    refine codeAny_builtin F.entry_extend_loop ?_
    rw [Around.under_plainId F.plain_extend_loop _]
    show wpAny _ X.A.in1.in1 (pyNext (.ref z) >>= _) _ _ s
    have out : ∀ h' tk, (∀ c o, c ≠ z → c ≠ TO → c ≠ i1 → c ≠ i2 → s.heap.get? c = some o → h'.get? c = some o) → Inv X pins σ (upd H S (.lst acc)) { s with heap := h', toks := tk } := fun h' tk keep => by
      refine I.turnedL (t' := tk) (ch := cells z TI TO i1 i2) (fun c o hb q => ?_) (fpS hf)
      have nb : ∀ d, (d = z ∨ d = TI ∨ d = TO ∨ d = i1 ∨ d = i2) → c ≠ d := fun d hd e => hb ((inC c).mpr (e ▸ hd))
      exact keep c o (nb z (.inl rfl)) (nb TO (.inr (.inr (.inl rfl)))) (nb i1 (.inr (.inr (.inr (.inl rfl))))) (nb i2 (.inr (.inr (.inr (.inr rfl))))) q
    rcases hz with q1 | ⟨T, g, oT, q1, q6, _, _⟩
    · refine wpAny_bind (wpAny_pyNext_zipD2_end Sp (Draws.tuple calm i1 a D.l1i1 us.toArray) (Draws.list calm i2 b D.l2i2 ws.toArray) q1 q2 q3 ⟨q4, pu⟩ ⟨q5, pw.isList⟩ (by rw [e1]; exact lx) (by rw [e2]; exact ly) (by rw [e1, e2]; exact hend) fun h' tk keep => ?_)
      exact wpAny_pure ⟨rfl, fin _ _ (out h' tk keep) go⟩
    · refine wpAny_bind (lz_stop Sp (Draws.tuple calm i1 a D.l1i1 us.toArray) (Draws.list calm i2 b D.l2i2 ws.toArray) q1 q6 q2 ⟨q4, pu⟩ ⟨q5, pw.isList⟩ (by rw [e1]; exact lx) (by rw [e2]; exact ly) (by rw [e1, e2]; exact hend) fun h' tk keep => ?_)
      exact wpAny_pure ⟨rfl, fin _ _ (out h' tk fun c o c0 _ c1 c2 e => keep c o c0 c1 c2 e) go⟩
  | cons p ps ih =>
    intro i s H acc hps lx ly hal I hS hf st sx sy go fin
    obtain ⟨q2, ⟨x0, y0, q3⟩, q4, q5, hz⟩ := st
    have lx' : i < xs.length := by
      rcases Nat.lt_or_ge i xs.length with h | h
      · exact h
      · rw [List.drop_of_length_le h] at hps; cases hps
    have ly' : i < ys.length := by
      rcases Nat.lt_or_ge i ys.length with h | h
      · exact h
      · rw [List.drop_of_length_le h, List.zip_nil_right] at hps; cases hps
    rw [List.drop_eq_getElem_cons lx', List.drop_eq_getElem_cons ly', List.zip_cons_cons] at hps
    obtain ⟨rfl, hps'⟩ := List.cons.inj hps
    have hx : xs[i]? = some xs[i] := List.getElem?_eq_getElem lx'
    have hy : ys[i]? = some ys[i] := List.getElem?_eq_getElem ly'
    generalize xs[i] = x at hx go
    generalize ys[i] = y at hy go
    obtain ⟨us, ru, pu, _⟩ := I.tuple (.of (sameS hS _ _ sx))
    obtain ⟨ws, rw', pw, hzl⟩ := I.list (.of (sameS hS _ _ sy))
    have lu : i < us.toArray.size := by rw [List.size_toArray, ← ru.length]; exact lx'
    have lw : i < ws.toArray.size := by rw [List.size_toArray, ← rw'.length]; exact ly'
    have calm : X.A.in1.in1.in1.handled = none := I.ok.hd hc
    have zlt : z < s.heap.objs.size := by rcases hz with q1 | ⟨_, _, _, q1, _⟩ <;> exact Heap.lt_size q1
    have lt : ∀ c ∈ cells z TI TO i1 i2, c < s.heap.objs.size := fun c hcm => by
      rcases (inC c).mp hcm with rfl | rfl | rfl | rfl | rfl
      · exact zlt
      · exact Heap.lt_size q2
      · exact Heap.lt_size q3
      · obtain ⟨_, e1, _⟩ := q4
        exact Heap.lt_size e1
      · obtain ⟨_, e2, _⟩ := q5
        exact Heap.lt_size e2
    have hSs : (upd H S (.lst acc)) S = some (.lst acc) := upd_same
    obtain ⟨its, nn, rl, oS, _⟩ := I.lst hSs
    have Slt : S < s.heap.objs.size := Heap.lt_size oS
    have nT : s.heap.objs.size ∉ cells z TI TO i1 i2 := fun h => Nat.lt_irrefl _ (lt _ h)
    have HT : H s.heap.objs.size = none := by
      have := I.hok.fresh (Nat.le_refl _)
      rw [upd_ne (Nat.ne_of_gt Slt)] at this
      exact this
    have go' := go s.heap.objs.size HT (Nat.ne_of_gt Slt)
    refine codeAny_builtin F.entry_extend_loop ?_
    rw [Around.under_plainId F.plain_extend_loop _]
    show wpAny _ X.A.in1.in1 (pyNext (.ref z) >>= _) _ _ s
    -- what is left to show behind the item, however it came
    have step : ∀ (u v : Value) (h' : Heap) (tk : Nat), us.toArray[i]? = some u → ws.toArray[i]? = some v → (IsZip h' z TI TO .none ∨ ∃ T g oT, IsZipHeld h' z TI TO T g ∧ h'.get? T = some oT ∧ T ∉ cells z TI TO i1 i2 ∧ T ≠ S) → (∃ x y, IsTupOf2 h' TO x y) → h'.IsTupleIter i1 a (i + 1) → h'.IsListIter i2 b (i + 1) → IsTupOf2 h' s.heap.objs.size u v →
        (∀ c o, c ≠ z → c ≠ TO → c ≠ i1 → c ≠ i2 → s.heap.get? c = some o → h'.get? c = some o) →
        wpAny (model X.prog X.w) X.A.in1.in1 (updateSeq S (·.push (.ref s.heap.objs.size)) >>= fun _ => again (.builtin "list.extend.loop" ⟨[.ref S, .ref z, .none], []⟩))
          (fun fin s' => match fin with | .done f => wants (fun r s₂ => r = .none ∧ Qv (.ref S) s₂) E (.ok f) s' | .again c' => c'.quiet = true ∧ codeAny (model X.prog X.w) X.A.in1 c' (wants (fun r s₂ => r = .none ∧ Qv (.ref S) s₂) E) s')
          (fun e s' => wants (fun r s₂ => r = .none ∧ Qv (.ref S) s₂) E (.error e) s') { s with heap := h', toks := tk } := by
      intro u v h' tk hu hv z' t' n1 n2 tp keep
      obtain ⟨u', hu', ru'⟩ := ru.get hx
      obtain ⟨v', hv', rv'⟩ := rw'.get hy
      obtain rfl : u = u' := by
        rw [List.getElem?_toArray, hu'] at hu
        exact (Option.some.inj hu).symm
      obtain rfl : v = v' := by
        rw [List.getElem?_toArray, hv'] at hv
        exact (Option.some.inj hv).symm
      have out : ∀ c o, c ∉ cells z TI TO i1 i2 → s.heap.get? c = some o → h'.get? c = some o := fun c o hb q => by
        have nb : ∀ d, (d = z ∨ d = TI ∨ d = TO ∨ d = i1 ∨ d = i2) → c ≠ d := fun d hd e => hb ((inC c).mpr (e ▸ hd))
        exact keep c o (nb z (.inl rfl)) (nb TO (.inr (.inr (.inl rfl)))) (nb i1 (.inr (.inr (.inr (.inl rfl))))) (nb i2 (.inr (.inr (.inr (.inr rfl))))) q
      have I1 : Inv X pins σ (upd (upd H S (.lst acc)) s.heap.objs.size (.tup [x, y])) { s with heap := h', toks := tk } := I.turnedNew (t' := tk) (ch := cells z TI TO i1 i2) out (fpS hf) (Nat.le_refl _)
        ⟨by show 2 ≤ sizeLine; decide, [u, v], .cons ru' (.cons rv' .nil), ⟨_, tp, rfl, _, rfl⟩⟩
      have oS' : h'.get? S = some { cls := .type "list", data := .seq its.toArray nn } := out _ _ hSc oS
      have al : its.length = acc.length := rl.length.symm
      have zl : acc.length + 1 ≤ sizeLine := by have := hzl; omega
      obtain ⟨n2', e2'⟩ : ∃ n', Obj.mapSeq (·.push (Value.ref s.heap.objs.size)) { cls := .type "list", data := .seq its.toArray nn } = { cls := .type "list", data := .seq (its ++ [Value.ref s.heap.objs.size]).toArray n' } := ⟨_, by
        rw [← List.push_toArray]
        rfl⟩
      have hv1 : Vals [V.ref s.heap.objs.size] [Value.ref s.heap.objs.size] := .cons rfl .nil
      have I2 := I1.lstUpd (p := S) (xs := acc) (ys := acc ++ [V.ref s.heap.objs.size]) (its' := its ++ [Value.ref s.heap.objs.size]) (n' := n2') (f := Obj.mapSeq (·.push (Value.ref s.heap.objs.size))) (by rw [upd_ne (Nat.ne_of_lt Slt)]; exact upd_same) oS' e2' (rl.append hv1) (by rw [List.length_append, List.length_singleton]; exact zl) tk
      have eH : upd (upd (upd H S (.lst acc)) s.heap.objs.size (.tup [x, y])) S (.lst (acc ++ [V.ref s.heap.objs.size])) = upd (upd H s.heap.objs.size (.tup [x, y])) S (.lst (acc ++ [V.ref s.heap.objs.size])) := by
        funext c
        by_cases h1 : c = S
        · subst h1; rw [upd_same, upd_same]
        · rw [upd_ne h1, upd_ne h1]
          by_cases h2 : c = s.heap.objs.size
          · subst h2; rw [upd_same, upd_same]
          · rw [upd_ne h2, upd_ne h2, upd_ne h1]
      rw [eH] at I2
      have oth : ∀ c, c ≠ S → ∀ o, h'.get? c = some o → (h'.update S (Obj.mapSeq (·.push (Value.ref s.heap.objs.size)))).get? c = some o := fun c hc o e => (Heap.get?_update_other _ _ (Ne.symm hc)).trans e
      have nS : ∀ c ∈ cells z TI TO i1 i2, c ≠ S := fun c hcm e => hSc (by rw [← e]; exact hcm)
      refine wpAny_bind (wpAny_updateSeq oS' rfl (wpAny_pure ⟨plainId_quiet F.plain_extend_loop _, ih (i + 1) _ (upd H s.heap.objs.size (.tup [x, y])) (acc ++ [V.ref s.heap.objs.size]) hps' lx' ly' (by rw [List.length_append, List.length_singleton]; omega) I2 (by rw [upd_ne (Nat.ne_of_lt Slt)]; exact hS) (fun c hcm => ⟨by rw [upd_ne (fun e : c = s.heap.objs.size => nT (by rw [← e]; exact hcm))]; exact (hf c hcm).1, (hf c hcm).2⟩) ?_ (by rw [upd_ne (ne_of_none sx HT)]; exact sx) (by rw [upd_ne (ne_of_none sy HT)]; exact sy) go' fin⟩) ?_ ?_)
      · obtain ⟨tx, ty, t'⟩ := t'
        refine ⟨oth _ (nS TI (by simp [cells])) _ (keep _ _ D.TIz D.TITO D.TIi1 D.TIi2 q2), ⟨tx, ty, oth _ (nS TO (by simp [cells])) _ t'⟩, n1.at fun o q => oth _ (nS i1 (by simp [cells])) _ q, n2.at fun o q => oth _ (nS i2 (by simp [cells])) _ q, ?_⟩
        rcases z' with z' | ⟨T, g, oT, z1, z2, z3, z4⟩
        · exact .inl (oth _ (nS z (by simp [cells])) _ z')
        · exact .inr ⟨T, g, oT, oth _ (nS z (by simp [cells])) _ z1, oth _ z4 _ z2, z3, z4⟩
      · rw [List.size_toArray]; omega
      · show (its.toArray.push _).size ≤ sizeLine + 1
        rw [Array.size_push, List.size_toArray]; omega
    rcases hz with q1 | ⟨T, g, oT, q1, q6, q7, q8⟩
    · refine wpAny_bind (wpAny_pyNext_zipD2_item Sp (Draws.tuple calm i1 a D.l1i1 us.toArray) (Draws.list calm i2 b D.l2i2 ws.toArray) q1 q2 q3 ⟨q4, pu⟩ ⟨q5, pw.isList⟩ lu lw fun u v h' tk gu gv z' TO' n1 n2 tp sz keep => ?_)
      exact step u v h' tk gu gv (.inr ⟨s.heap.objs.size, false, _, z', tp, nT, Nat.ne_of_gt Slt⟩) ⟨_, _, TO'⟩ n1.1 n2.1 tp keep
    · refine wpAny_bind (lz_next Sp (Draws.tuple calm i1 a D.l1i1 us.toArray) (Draws.list calm i2 b D.l2i2 ws.toArray) q1 q6 q2 ⟨q4, pu⟩ ⟨q5, pw.isList⟩ lu lw fun u v h' tk gu gv z' n1 n2 tp keep => ?_)
      have nb : ∀ d, (d = z ∨ d = TI ∨ d = TO ∨ d = i1 ∨ d = i2) → T ≠ d := fun d hd e => q7 ((inC T).mpr (e ▸ hd))
      exact step u v h' tk gu gv (.inr ⟨T, true, oT, z', keep _ _ (nb z (.inl rfl)) (nb i1 (.inr (.inr (.inr (.inl rfl))))) (nb i2 (.inr (.inr (.inr (.inr rfl))))) q6, q7, q8⟩) ⟨_, _, keep _ _ D.TOz Sp.Ti1 Sp.Ti2 q3⟩ n1.1 n2.1 tp fun c o c0 _ c1 c2 e => keep c o c0 c1 c2 e
/-- list(zip(t, l)): a new list of new pairs -/
def tLz (ta : TA) : TE := fun σ H Q => ta σ H fun vs H1 => ∃ a b xs ys, vs = [.ref a, .ref b] ∧ H1 a = some (.tup xs) ∧ H1 b = some (.lst ys) ∧ ∀ S, H1 S = none → LzGo (xs.zip ys) S [] H1 Q
theorem pe_lz {e e2 : Expr} {ta : TA} {p p2 pos pos2 : Pos} (hc : X.calm = true) (hg : Gl X "list") (hm : X.mg "list" = none) (hg2 : Gl X "zip") (hm2 : X.mg "zip" = none) (ha : PA X [e, e2] ta)
    (hs : starEach [e, e2] X.env = (false, eval e X.env) :: starEach [e2] X.env) (hpl : (backTo pos2 (starEach [e2] X.env)).any (·.1) = false)
    (hs2 : starEach [.Call (.Name "zip" p2) [e, e2] [] pos2] X.env = (false, eval (.Call (.Name "zip" p2) [e, e2] [] pos2) X.env) :: starEach [] X.env := by rfl) :
    PE X (.Call (.Name "list" p) [.Call (.Name "zip" p2) [e, e2] [] pos2] [] pos) (tLz ta) := by
  refine ⟨fun pins s σ H Q I h => ?_⟩
  refine Call_ (ld_blt I hg hm boot_list (PyProof.Rows.callWith_type1 (args_cons (Call_ (ld_blt I hg2 hm2 PyProof.Rows.boot_zip (PyProof.Rows.callWith_type1 (thn (ha.run pos2 pins s σ H _ I h) fun us s1 hh => ?_) hs hpl))) hs2) hs2 rfl))
  obtain ⟨vs, H1, I1, r1, a, b, xs, ys, rfl, sx, sy, q⟩ := hh
  cases r1 with
  | cons r rr =>
    cases rr with
    | cons r' rr =>
      cases rr
      cases r
      cases r'
      obtain ⟨its, ru, pu, _⟩ := I1.tuple (.of sx)
      obtain ⟨its2, rw', pw, _⟩ := I1.list (.of sy)
      have la : a < s1.heap.objs.size := let ⟨o, ho, _⟩ := pu; Heap.lt_size ho
      have lb : b < s1.heap.objs.size := pw.lt
      refine zip_begins2 (begins_tuple a its.toArray) (begins_list b its2.toArray) pu pw.isList fun h' c1 c2 c3 g1 g2 sz keep => args_nil ?_
      have J : Inv X pins σ H1 { s1 with heap := h' } := I1.kept (t' := s1.toks) keep
      have D := PySem.W.ktu_apart s1.heap.objs.size a b la lb
      have hf : ∀ c ∈ cells (s1.heap.objs.size + 4) (s1.heap.objs.size + 2) (s1.heap.objs.size + 3) s1.heap.objs.size (s1.heap.objs.size + 1), FpOk X pins H1 c := fun c hc => by
        have hle : s1.heap.objs.size ≤ c := by
          simp only [cells, List.mem_cons, List.not_mem_nil, or_false] at hc
          rcases hc with rfl | rfl | rfl | rfl | rfl <;> first | exact Nat.le_refl _ | exact Nat.le_add_right _ _
        exact I1.fpOk hle (I1.hok.fresh hle)
      have hSn : H1 h'.objs.size = none := J.hok.fresh (Nat.le_refl _)
      have clt : ∀ c ∈ cells (s1.heap.objs.size + 4) (s1.heap.objs.size + 2) (s1.heap.objs.size + 3) s1.heap.objs.size (s1.heap.objs.size + 1), c < h'.objs.size := fun c hc => by
        have z4 : s1.heap.objs.size + 4 < h'.objs.size := Heap.lt_size c1
        simp only [cells, List.mem_cons, List.not_mem_nil, or_false] at hc
        rcases hc with rfl | rfl | rfl | rfl | rfl
        · exact z4
        · exact Nat.lt_of_le_of_lt (Nat.add_le_add_left (show 2 ≤ 4 by decide) _) z4
        · exact Nat.lt_of_le_of_lt (Nat.add_le_add_left (show 3 ≤ 4 by decide) _) z4
        · exact Nat.lt_of_le_of_lt (Nat.le_add_right _ 4) z4
        · exact Nat.lt_of_le_of_lt (Nat.add_le_add_left (show 1 ≤ 4 by decide) _) z4
      have hSc : h'.objs.size ∉ cells (s1.heap.objs.size + 4) (s1.heap.objs.size + 2) (s1.heap.objs.size + 3) s1.heap.objs.size (s1.heap.objs.size + 1) := fun hm => Nat.lt_irrefl _ (clt _ hm)
      refine itk_call (s := { s1 with heap := h' }) (T := "zip") c1 rfl (by decide) (by decide) (fun s' E Q ho q => wpAny_pyIter_zip ho q) (fun s' E Q ho q => hint_zip ⟨_, ho, rfl⟩ q) fun h2 c tk hk hs => ?_
      have I2 : Inv X pins σ (upd H1 h'.objs.size (.lst [])) { s1 with heap := h2, toks := tk } := J.laid (t' := tk) hk (Nat.le_refl _) (show ObjOk X.prog X.w _ _ _ (.lst []) from ⟨by show 0 ≤ sizeLine; decide, [], c, .nil, hs⟩)
      refine lz_loop hc D hSc (Q := Q) (xs.zip ys) 0 _ H1 [] (by rw [List.drop_zero, List.drop_zero]) (Nat.zero_le _) (Nat.zero_le _) (Nat.zero_le _) I2 hSn hf ?_ sx sy (q _ hSn) fun s' H' I' hq => ⟨V.ref _, H', I', rfl, hq⟩
      refine ⟨hk _ _ c2, ⟨_, _, hk _ _ c3⟩, ⟨_, hk _ _ g1, rfl, rfl⟩, ⟨_, hk _ _ g2, rfl, rfl⟩, .inl (hk _ _ c1)⟩
end
/-! ### told by data -/
section
variable {X : Cx} {W : WX} {e e2 : Expr} {ds : Slots} {M : Mem} {R : DV → Mem → Prop} {Xp : Value → Mem → Prop} {pos p p2 pos2 : Pos} {V' L G B : List Str}
theorem lz_data {K : PySem.W.Frag} {S' : Addr → Prop} {F0 H0 : Hp} {M : Mem} {σ : L2.St} {ds : Slots} {S : Addr} {Q : VK} : ∀ (xs ys : List V) (dx dy accD : List Dat) (acc : List V) (F H : Hp), RpL K F xs dx → RpL K F ys dy → In K S' F0 H0 F (upd H S (.lst acc)) ((S, .lst (accD.map .d)) :: M) σ ds → RpL K F acc accD → H S = none →
    (∀ F' H', Same F F' → In K S' F0 H0 F' H' M σ ds → Rp K F' (.ref S) (.lst (accD ++ zipT2 dx dy)) → Q (.ref S) H') → LzGo (xs.zip ys) S acc H Q := by
  have done : ∀ (dx dy accD : List Dat) (acc : List V) (F H : Hp), zipT2 dx dy = [] → In K S' F0 H0 F (upd H S (.lst acc)) ((S, .lst (accD.map .d)) :: M) σ ds → RpL K F acc accD →
      (∀ F' H', Same F F' → In K S' F0 H0 F' H' M σ ds → Rp K F' (.ref S) (.lst (accD ++ zipT2 dx dy)) → Q (.ref S) H') → Q (.ref S) (upd H S (.lst acc)) := by
    intro dx dy accD acc F H hz I hacc hq
    obtain ⟨o, ho, ok, J⟩ := I.freeze (i := 0) rfl
    rw [upd_same] at ho
    cases ho
    have nf := (I.mem _ List.mem_cons_self).1
    have sF : Same F (upd F S (.lst acc)) := fun b u e => by rw [upd_ne (ne_of_none e nf)]; exact e
    refine hq _ _ sF J ?_
    rw [hz, List.append_nil]
    exact .lst upd_same (hacc.mono sF)
  intro xs
  induction xs with
  | nil =>
    intro ys dx dy accD acc F H rx ry I hacc hS hq
    cases rx
    exact done [] dy accD acc F H rfl I hacc hq
  | cons x xs ih =>
    intro ys dx dy accD acc F H rx ry I hacc hS hq
    cases rx with
    | @cons _ d _ dx hx rx =>
      cases ys with
      | nil =>
        cases ry
        exact done (d :: dx) [] accD acc F H rfl I hacc hq
      | cons y ys =>
        cases ry with
        | @cons _ d2 _ dy hy ry =>
          intro T hT hTS
          have hT' : (upd H S (.lst acc)) T = none := by rw [upd_ne hTS]; exact hT
          have ex := Ext.lay (F := F) (p := T) (HO.tup [x, y]) I.fh hT'
          have I1 := I.ext ex
          have rT : Rp K (upd F T (HO.tup [x, y])) (V.ref T) (Dat.tup [d, d2]) := .tup upd_same (.cons (hx.mono ex.ff) (.cons (hy.mono ex.ff) .nil))
          have hacc' := (hacc.mono ex.ff).append (.cons rT .nil)
          have I2 := I1.setM (i := 0) (m' := MO.lst ((accD ++ [Dat.tup [d, d2]]).map DV.d)) (o := HO.lst (acc ++ [V.ref T])) rfl (.lst (VL.of_data hacc'))
          have eH : upd (upd (upd H S (HO.lst acc)) T (HO.tup [x, y])) S (HO.lst (acc ++ [V.ref T])) = upd (upd H T (HO.tup [x, y])) S (HO.lst (acc ++ [V.ref T])) := by
            funext c
            by_cases h1 : c = S
            · subst h1; rw [upd_same, upd_same]
            · rw [upd_ne h1, upd_ne h1]
              by_cases h2 : c = T
              · subst h2; rw [upd_same, upd_same]
              · rw [upd_ne h2, upd_ne h2, upd_ne h1]
          rw [eH] at I2
          refine ih ys dx dy (accD ++ [Dat.tup [d, d2]]) (acc ++ [V.ref T]) (upd F T (HO.tup [x, y])) (upd H T (HO.tup [x, y])) (rx.mono ex.ff) (ry.mono ex.ff) I2 hacc' (by rw [upd_ne (Ne.symm hTS)]; exact hS) fun F' H' s' I' r' => hq F' H' (ex.ff.trans s') I' ?_
          rw [zipT2]
          rw [List.append_assoc] at r'
          exact r'
theorem he_lz (hc : X.calm = true) (k : Kx X V' L G B) (m1 : Mm B "list") (m2 : Mm B "zip") (h : HA X W [e, e2] ds M (fun dvs M1 => ZipP dvs fun xs => R (.d (.lst xs)) M1) Xp)
    (hs : starEach [e, e2] X.env = (false, eval e X.env) :: starEach [e2] X.env) (hpl : (backTo pos2 (starEach [e2] X.env)).any (·.1) = false) : HE X W (.Call (.Name "list" p) [.Call (.Name "zip" p2) [e, e2] [] pos2] [] pos) ds M R Xp :=
  he_of (pe_lz hc (k.bl _ m1.mem).1 (k.bl _ m1.mem).2.1 (k.bl _ m2.mem).1 (k.bl _ m2.mem).2.1 (pa_t X _) hs hpl) fun n S F0 H0 F H σ I Q q x => h n S F0 H0 F H σ I _ (fun vs F1 H1 M1 dvs s1 I1 o1 g1 => by
    obtain ⟨dx, dy, rfl, g⟩ := g1
    cases o1 with
    | cons oa o2 =>
      cases o2 with
      | cons ob o3 =>
        cases o3
        have oa : Rp X.K F1 _ (.tup dx) := oa
        have ob : Rp X.K F1 _ (.lst dy) := ob
        cases oa with
        | @tup a xs _ hFa rx =>
          cases ob with
          | @lst b ys _ hFb ry =>
            refine ⟨a, b, xs, ys, rfl, I1.fh _ _ hFa, I1.fh _ _ hFb, fun p hp => ?_⟩
            exact lz_data xs ys dx dy [] [] F1 H1 rx ry (I1.newC hp (.lst .nil)) .nil hp fun F' H' s' I' r' => q _ F' H' M1 _ (s1.trans s') I' (VOk.dat r') g) x
instance (priority := high) [c : Cc X] [k : Kc X V' L G B] [m1 : MmC B "list"] [m2 : MmC B "zip"] [s : NS e] [s2 : NSs [e2]] : Step (HE X W (.Call (.Name "list" p) [.Call (.Name "zip" p2) [e, e2] [] pos2] [] pos) ds M R Xp) (HA X W [e, e2] ds M (fun dvs M1 => ZipP dvs fun xs => R (.d (.lst xs)) M1) Xp) :=
  ⟨fun h => he_lz c.h k.k m1.h m2.h h (s.h [e2] X.env) (s2.back pos2 X.env)⟩
end
end CS

/-! CsExn: own errors as values, isinstance of them, one clause with a name. -/
namespace CS
open PySem L2
/-- what is known of a class of errors, so that isinstance asks its instances -/
class ExcV (X : Cx) (C : Addr) : Prop where
  h : ExcC X.K C
/-- is an error of the class C one of the class c -/
class KitC (X : Cx) (C : Addr) (c : Value) (b : outParam Bool) : Prop where
  h : PySem.W.kitOne X.K (.ref C) c = some b
section
variable {X : Cx} {W : WX} {e a b c o : Expr} {es : List Expr} {ds : Slots} {M : Mem} {R : DV → Mem → Prop} {Xp : Value → Mem → Prop} {pos p p2 p3 apos : Pos} {V L G B : List Str}
variable {pn : Slots → Mem → Prop} {pr : DV → Mem → Prop} {pb pc : Slots → Mem → Prop} {px : Value → Slots → Mem → Prop}
theorem he_exn {x m : Str} {j : Nat} {C : Addr} (o : OwnE X.K X.mg x C) (k : Kx X V L G B) (mm : Mm G x) (h : HE X W (.Constant (.str m) j p2) ds M (fun _ M1 => R (.d (.exn C)) M1) Xp) : HE X W (.Call (.Name x p) [.Constant (.str m) j p2] [] p3) ds M R Xp :=
  he_of (pe_exc1 PySem.F.excBase_ValueError o.q o.g o.k (k.gl x mm.mem).1 (pe_t X _) (by with_unfolding_all rfl) (k.gl x mm.mem).2) fun n S F0 H0 F H σ I Q q x =>
    h n S F0 H0 F H σ I _ (fun v F1 H1 M1 dv s1 I1 o1 g1 a ha => by
      have y := Ext.lay (ExO (.ref C) a) I1.fh ha
      exact q _ _ _ M1 _ (s1.trans y.ff) (I1.ext y) (VOk.dat (.exn upd_same)) g1) x
instance {x m : Str} {j : Nat} {C : Addr} [o : OwnC X x C] [k : Kc X V L G B] [mm : MmC G x] :
    Step (HE X W (.Call (.Name x p) [.Constant (.str m) j p2] [] p3) ds M R Xp) (HE X W (.Constant (.str m) j p2) ds M (fun _ M1 => R (.d (.exn C)) M1) Xp) := ⟨he_exn o.h k.k mm.h⟩
/-- isinstance(e, c), e an error as a value -/
def rIsV (K : PySem.W.Frag) : List L2.V → Hp → VK → Prop := fun xs H Q => ∃ (a D : Addr) (c : L2.V) (cv : Value) (b : Bool), xs = [.ref a, c] ∧ H a = some (ExO (.ref D) a) ∧ ExcC K D ∧ ClsV c cv ∧ PySem.W.kitOne K (.ref D) cv = some b ∧ Q (.bl b) H
theorem call_isV : CallR X (.builtin "isinstance") (rIsV X.K) := by
  intro pins s σ H xs us Q I r h
  obtain ⟨a, D, c, cv, b, rfl, ha, C, k, e, q⟩ := h
  obtain ⟨u1, u2, rfl, r1, r2⟩ := vals2 r
  have e2 := k.eq r2
  subst e2
  cases (show u1 = Value.ref a from r1)
  obtain ⟨⟨oe, vs, ho, hz, hd, h1, _⟩, _, _⟩ := I.hok a _ ha
  have J : PySem.W.InstAt s.heap a oe D none := by
    obtain ⟨oc, od, oda, osl⟩ := oe
    obtain ⟨z1, z2⟩ := hz
    dsimp only at z1 z2 hd
    subst z1 z2 hd
    exact ⟨ho, rfl, rfl, trivial⟩
  exact PySem.W.kia_one (PySem.W.handS_kitx_exc C.hg C.hk C.hs C.hd C.ha C.hn C.ht C.hm) I.kIn J e (fun z => nomatch z) fun tk => ⟨.bl b, H, I.tok tk, rfl, q⟩
def IsX (X : Cx) (c : Value) (x : DV) (k : Bool → Prop) : Prop := ∃ D b, x = .d (.exn D) ∧ ExcC X.K D ∧ PySem.W.kitOne X.K (.ref D) c = some b ∧ k b
instance {c : Value} {D : Addr} {b : Bool} {k : Bool → Prop} [v : ExcV X D] [i : KitC X D c b] : Step (IsX X c (.d (.exn D)) k) (k b) := ⟨fun h => ⟨D, b, rfl, v.h, i.h, h⟩⟩
theorem he_isX {y : Str} {C : Addr} (o : OwnE X.K X.mg y C) (k : Kx X V L G B) (m : Mm B "isinstance") (mm : Mm G y) (h : HE X W e ds M (fun x M1 => IsX X (.ref C) x fun b => R (.d (.bl b)) M1) Xp)
    (he : starEach (e :: [.Name y p3]) X.env = (false, eval e X.env) :: starEach [.Name y p3] X.env := by with_unfolding_all rfl) (hpl : (backTo pos (starEach [.Name y p3] X.env)).any (·.1) = false := by with_unfolding_all rfl) :
    HE X W (.Call (.Name "isinstance" p2) [e, .Name y p3] [] pos) ds M R Xp :=
  he_of (pe_callB call_isV (k.bl _ m.mem).1 (k.bl _ m.mem).2.1 (by decide +kernel) (pa_cons (pe_t X e) (pa_cons (pe_glob (v := .ref C) (k.gl y mm.mem).1 o.g rfl (k.gl y mm.mem).2) pa_nil rfl) he) (k.bl _ m.mem).2.2.1 (k.bl _ m.mem).2.2.2 he hpl)
    fun n S F0 H0 F H σ I Q q x => h n S F0 H0 F H σ I _ (fun v F1 H1 M1 dv s1 I1 o1 g1 => by
      obtain ⟨D, b, rfl, hD, hk, g⟩ := g1
      have o1 : Rp X.K F1 v (.exn D) := o1
      cases o1 with
      | exn hF => exact ⟨_, D, .ref C, .ref C, b, rfl, I1.fh _ _ hF, hD, .own C, hk, q _ F1 H1 M1 _ s1 I1 (VOk.dat (.bl b)) g⟩) x
instance {y : Str} {C : Addr} [o : OwnC X y C] [k : Kc X V L G B] [m : MmC B "isinstance"] [mm : MmC G y] [s : NS e] : Step (HE X W (.Call (.Name "isinstance" p2) [e, .Name y p3] [] pos) ds M R Xp) (HE X W e ds M (fun x M1 => IsX X (.ref C) x fun b => R (.d (.bl b)) M1) Xp) := ⟨fun h =>
  he_isX o.h k.k m.h mm.h h (s.h _ X.env) rfl⟩
end
/-! ### except x as n: return isinstance(n, T) -/
section
variable {X : Cx} {W : WX} {ds : Slots} {M : Mem} {pos pos' np p1 p2 p3 p4 p5 : Pos} {V L G B : List Str}
variable {pn : Slots → Mem → Prop} {pr : DV → Mem → Prop} {pb pc : Slots → Mem → Prop} {px : Value → Slots → Mem → Prop}
/-- what the suite wishes -/
def tIs (K : PySem.W.Frag) (i : Nat) (a : Addr) (cls : Value) (d : Option Addr) : TS := fun D σ H => ∃ De b, cls = .ref De ∧ d = none ∧ ExcC K De ∧ PySem.W.kitOne K (.ref De) (.type "ValueError") = some b ∧ σ[i]? = some (some (.ref a)) ∧ D.rt (.bl b) H
/-- what is asked of the body's errors -/
def IsQ (X : Cx) (C : Addr) (pr : DV → Mem → Prop) (cls : Value) (M : Mem) : Prop := ∃ De b, cls = .ref De ∧ PySem.W.subIn X.K (.ref De) (.ref C) = some true ∧ ExcC X.K De ∧ PySem.W.kitOne X.K (.ref De) (.type "ValueError") = some b ∧ pr (.d (.bl b)) M
theorem hs_tryIs {x n : Str} {C : Addr} {i : Nat} {body : List Stmt} (hs : X.stack = X.env :: X.outer) (hf : X.env.frame = some X.env.locals) (tk : Takes X W) (o : OwnE X.K X.mg x C) (k : Kx X V L G B) (mx : Mm G x) (mn : Mm V n) (m1 : Mm B "isinstance") (m2 : Mm B "ValueError")
    (hi : (ds.map (·.1))[i]? = some n) (hln : X.env.kindOf n = some .local)
    (h : TrQ X fun Y W' => HSs Y W' body ds M ⟨pn, pr, pb, pc, fun cls ds' M' => IsQ X C pr cls M'⟩) :
    HS X W (.Try body [.ExceptHandler (some (.Name x np)) (some n) [.Return (some (.Call (.Name "isinstance" p1) [.Name n p2, .Name "ValueError" p3] [] p4)) p5] pos'] [] [] pos) ds M ⟨pn, pr, pb, pc, px⟩ := fun hN =>
  hs_of (ps_try_as (i := i) (tb := fun W' D σ H => ∀ pns xe, Takes (X.tr pns xe) W' → PassesOwn (model X.prog X.w) X.A X.env xe → tSs (X.tr pns xe) body D σ H) (ts := tIs X.K i) hs hf k.nd (by rw [hN]; exact hi) hln ⟨(k.gl x mx.mem).1, (k.gl x mx.mem).2, .inl o.g⟩ tk
    (fun W' pns xe tk' pass => ⟨fun pins s σ H D I h => h pns xe tk' pass pins s I⟩)
    (fun a oe cls d pns hz hfl => ⟨fun pins s σ H D I q => by
      obtain ⟨De, b, rfl, rfl, hC, hk, hσ, hr⟩ := q
      refine (pss_one (ps_ret (pe_callB (call_isE hC hz hfl) (k.bl _ m1.mem).1 (k.bl _ m1.mem).2.1 (by decide +kernel)
        (pa_cons (pe_var (i := i) (by show X.N[i]? = _; rw [hN]; exact hi) (k.vis n mn.mem).1 (k.vis n mn.mem).2.1 (k.vis n mn.mem).2.2) (pa_cons (pe_bltn (v := .ty "ValueError") (k.bl _ m2.mem).1 (k.bl _ m2.mem).2.1 (by decide +kernel) rfl (k.bl _ m2.mem).2.2.1 (k.bl _ m2.mem).2.2.2) pa_nil rfl) rfl)
        (k.bl _ m1.mem).2.2.1 (k.bl _ m1.mem).2.2.2 rfl rfl))).run pins s σ H D I ?_
      exact ⟨_, hσ, .ty "ValueError", .type "ValueError", b, rfl, fun u hu => hu, hk, hr⟩⟩)) (fun n' S F0 H0 F H σ D I g1 g2 g3 g4 g5 pns xe tk' pass =>
    h (X.tr pns xe) _ ⟨rfl, rfl, rfl, rfl, rfl, rfl, rfl, rfl, rfl, rfl, rfl, rfl, pass⟩ tk' n' S F0 H0 F H σ D I g1 g2 g3 g4 fun cls F' H' M' σ' ds' s1 I1 n1 q1 => by
      obtain ⟨De, b, rfl, hsub, hC, hk, hr⟩ := q1
      refine ⟨true, PySem.W.exm_ref o.b o.h o.t hsub, fun _ a ha => ⟨De, b, rfl, rfl, hC, hk, ?_, g2 (.bl b) F' H' M' σ' ds' _ s1 I1 (VOk.dat (.bl b)) hr⟩, fun z => by cases z⟩
      have hl : i < σ'.length := by
        have e1 := I1.env.len
        have e2 := congrArg List.length n1
        have e3 := (List.getElem?_eq_some_iff.mp hi).1
        simp only [List.length_map] at e2 e3
        omega
      rw [List.getElem?_set_self hl]) hN
end
/-! ### what the classes of errors say -/
theorem kit_own {K : PySem.W.Frag} {D C : Addr} {b : Bool} (hd : PySem.W.hasDictIn K C = true) (ht : PySem.W.typeIn K (.ref C) = some (.type "type")) (hs : PySem.W.subIn K (.ref D) (.ref C) = some b) (hself : PySem.W.subIn K (.ref D) (.ref D) = some true) : PySem.W.kitOne K (.ref D) (.ref C) = some b := by
  unfold PySem.W.kitOne
  by_cases e : D = C
  · subst e
    rw [hself] at hs
    rw [if_pos (beq_self_eq_true _)]
    exact hs
  · have e2 : (Value.ref D == Value.ref C) = false := Bool.eq_false_iff.mpr fun q => e (Value.ref.inj (beq_iff_eq.mp q))
    rw [e2, if_neg (by decide)]
    obtain ⟨cd, hc, _⟩ := PySem.W.any_some hd
    show (if ((PySem.W.clsIn K C).isSome && PySem.W.typeIn K (.ref C) == some (.type "type")) = true then PySem.W.subIn K (.ref D) (.ref C) else none) = some b
    rw [if_pos (by rw [hc, ht]; rfl)]
    exact hs
theorem kit_val {K : PySem.W.Frag} {D : Addr} (hs : PySem.W.subIn K (.ref D) (.type "ValueError") = some true) : PySem.W.kitOne K (.ref D) (.type "ValueError") = some true := by
  have e2 : (Value.ref D == Value.type "ValueError") = false := Bool.eq_false_iff.mpr fun q => nomatch (beq_iff_eq.mp q)
  unfold PySem.W.kitOne
  rw [e2, if_neg (by decide)]
  show (if PySem.W.kitMeta "ValueError" = true then PySem.W.subIn K (.ref D) (.type "ValueError") else none) = some true
  rw [if_pos (by decide +kernel)]
  exact hs
structure ExW {E : Type} [DecidableEq E] (K : PySem.W.Frag) (mg : Str → Option Value) (cs : E → Addr) (bs : Addr) (exR : List E) : Prop where
  own : OwnE K mg "SmithError" bs
  exc : ∀ x ∈ exR, ExcC K (cs x)
  sub : ∀ x ∈ exR, PySem.W.subIn K (.ref (cs x)) (.ref bs) = some true
  val : ∀ x ∈ exR, PySem.W.kitOne K (.ref (cs x)) (.type "ValueError") = some true
  kin : ∀ x ∈ exR, PySem.W.kitOne K (.ref (cs x)) (.ref bs) = some true
  two : ∀ x ∈ exR, ∀ y ∈ exR, PySem.W.subIn K (.ref (cs x)) (.ref (cs y)) = some (decide (x = y))
  kit : ∀ x ∈ exR, ∀ y ∈ exR, PySem.W.kitOne K (.ref (cs x)) (.ref (cs y)) = some (decide (x = y))
end CS

/-! CsHot: defs called within an except suite, they raise and catch there. -/
namespace CS
open PySem L2
/-- a def that a name of the module holds, callable while an error is handled -/
def DefH (P : Program) (w : World) (K : PySem.W.Frag) (mg : Str → Option Value) (base : Heap) (CX : CXT) (k : Nat) (x : Str) (ps : List Str) (sp : Sp) : Prop :=
  ∃ f fd, L2H.FnH P w K mg base CX k f fd ps sp ∧ mg x = some (.ref f) ∧ PySem.W.keepIn K (.ref f) = true ∧ Binds K fd ps []
theorem callH {X : Cx} {W : WX} {V L G B : List Str} {CX : CXT} {k : Nat} {x : Str} {ps : List Str} {Rel : List Dat → Oc → Prop} (D : DefH X.prog X.w X.K X.mg X.base CX k x ps (spD X.K Rel)) (hr : L2H.RoomH k X.A) (hc : L2H.HotC X) (hx : Lets CX X W) (kx : Kx X V L G B) (m : Mm G x) : CallC X W x Rel :=
  ⟨fun {e es ds M R Xp p pos} s ss h => by
    obtain ⟨f, fd, F, hm, hk, hb⟩ := D
    exact he_of (L2H.pe_callH (E := WE W) F hr hc (kx.gl x m.mem).1 hm hk hb hx (pa_t X _) (kx.gl x m.mem).2 (s.h es X.env) (ss.back pos X.env)) fun n => we_callD (h n)⟩
/-- what a body has, while an error is handled -/
structure BdH (X : Cx) (P : Program) (w : World) (K : PySem.W.Frag) (mg : Str → Option Value) (base : Heap) (N : List Str) (st : Stmt) (d : Nat) (E : XK) : Prop where
  prog : X.prog = P
  w_ : X.w = w
  K_ : X.K = K
  mg_ : X.mg = mg
  base_ : X.base = base
  N_ : X.N = N
  sc : X.env.scope = defScope st
  fn : X.fn = fun _ => true
  hot : L2H.HotC X
  room : L2H.RoomH d X.A
  stk : X.stack = X.env :: X.outer
  frm : X.env.frame = some X.env.locals
section
variable {P : Program} {w : World} {K : PySem.W.Frag} {mg : Str → Option Value} {base : Heap} {x qual : Str} {st : Stmt} {f : Addr} {fd : FuncData} {N ps : List Str} {d : Nat} {Rel : List Dat → Oc → Prop}
theorem defH (T : Fun K x qual st f fd) (S : FnScope N ps (defScope st)) (hps : ps.length ≤ N.length) (len : ∀ as o, Rel as o → as.length = ps.length)
    (body : ∀ (X : Cx) (E : XK) (as : List Dat) (o : Oc), BdH X P w K mg base N st d E → Takes X (fun cls d _ H => E cls d H) → Rel as o → HSs X (fun c dd _ H => E c dd H) (defBody st) (zipD N as) [] ⟨fun _ _ => o = .val .non, Rt o, fun _ _ => False, fun _ _ => False, fun cls _ _ => o = .exc cls⟩) :
    L2H.FnH P w K mg base (L2.CX P w) (d + 1) f fd ps (spD K Rel) := by
  obtain ⟨oc, od, kV, doc, pm, an, cdv, ct, osl, rfl, lk, hcd⟩ := T.ex
  refine L2H.fn_ofH lk hcd S (spD_len len) fun A outer s H vs Q E p hot hr h => ⟨_, pss_t _ _, ?_⟩
  obtain ⟨F, as, o, fh, r, hrel, q⟩ := h
  have hl : vs.length ≤ N.length := by rw [r.len, len as o hrel]; exact hps
  refine body (L2H.cxH (L2.CX P w) P w K mg base N qual (defScope st) f cdv A outer s H E p) E as o ⟨rfl, rfl, rfl, rfl, rfl, rfl, rfl, rfl, ⟨p, hot, List.mem_singleton.mpr rfl⟩, hr, rfl, rfl⟩ (takes_of rfl rfl rfl rfl) hrel (zipD_names N as).symm (fun _ => False) F H F H _ _ (.start0 fh (env_start N vs as r hl)) ?_ ?_ ?_ ?_ ?_
  · intro F' H' M' σ' ds' s1 I1 n1 g1
    have g1 : o = .val .non := g1
    subst g1
    exact q .non F' H' I1.out .non
  · intro v F' H' M' σ' ds' dv s1 I1 o1 g1
    cases o with
    | val d =>
      have g1 : dv = .d d := g1
      subst g1
      exact q v F' H' I1.out o1
    | new xs =>
      obtain ⟨p, i, rfl, hm⟩ := g1
      have o1 : v = .ref p := o1
      subst o1
      have hmem : (p, MO.lst (xs.map DV.d)) ∈ M' := List.mem_of_getElem? hm
      obtain ⟨nf, u, hu, ou⟩ := I1.mem _ hmem
      have n0 : H p = none := (I1.own _ hmem).resolve_right (fun z => z)
      cases ou with
      | lst l => exact q p _ F' H' I1.out n0 nf hu l.to_data
    | exc c => exact (show False from g1).elim
  · exact fun _ _ _ _ _ _ _ _ g => (show False from g).elim
  · exact fun _ _ _ _ _ _ _ _ g => (show False from g).elim
  · intro cls F' H' M' σ' ds' s1 I1 n1 g1
    have g1 : o = .exc cls := g1
    subst g1
    exact q F' H' I1.out
/-- a def over data that may raise, its errors with no context -/
theorem defN (T : Fun K x qual st f fd) (S : FnScope N ps (defScope st)) (hps : ps.length ≤ N.length) (len : ∀ as o, Rel as o → as.length = ps.length)
    (body : ∀ (X : Cx) (E : XK) (as : List Dat) (o : Oc), Bd X P w K mg base N st d E → L2N.Takes X (fun cls d _ H => E cls d H) → Rel as o → HSs X (fun c dd _ H => E c dd H) (defBody st) (zipD N as) [] ⟨fun _ _ => o = .val .non, Rt o, fun _ _ => False, fun _ _ => False, fun cls _ _ => o = .exc cls⟩) :
    FnR P w K mg base (L2N.CX P w) (d + 1) f fd ps (spD K Rel) := def_ok T S hps len fun cdv A outer s H E as o hr h =>
  body _ E as o ⟨rfl, rfl, rfl, rfl, rfl, rfl, rfl, rfl, rfl, hr, passes_of rfl, rfl, rfl⟩ (L2N.takes_of rfl rfl rfl rfl) h
end
theorem letsN {X : Cx} {W : WX} (tk : L2N.Takes X W) : Lets (L2N.CX X.prog X.w) X W := fun σ => L2N.passAt tk σ
/-! ### raise -/
/-- raise X('m') lands at the wish, here -/
class RsC (X : Cx) (W : WX) : Prop where
  go : ∀ {e : Expr} {t : St → Hp → XK → Prop} {pos : Pos}, L2N.PMk X e t → PS X (.Raise (some e) none pos) (fun _ σ H => t σ H fun cls d H' => W cls d σ H')
theorem rsH {X : Cx} {W : WX} (hc : L2H.HotC X) (tk : Takes X W) : RsC X W := ⟨fun he => L2H.ps_raiseH hc tk he⟩
theorem rsN {X : Cx} {W : WX} (hc : X.calm = true) (tk : L2N.Takes X W) : RsC X W := ⟨fun he => L2N.ps_raise hc tk he⟩
section
variable {X : Cx} {W : WX} {ds : Slots} {M : Mem} {pos p p2 p3 : Pos} {V L G B : List Str}
variable {pn : Slots → Mem → Prop} {pr : DV → Mem → Prop} {pb pc : Slots → Mem → Prop} {px : Value → Slots → Mem → Prop}
instance {x m : Str} {j : Nat} {C : Addr} [r : RsC X W] [o : OwnC X x C] [k : Kc X V L G B] [mm : MmC G x] :
    Step (HS X W (.Raise (some (.Call (.Name x p) [.Constant (.str m) j p2] [] p3)) none pos) ds M ⟨pn, pr, pb, pc, px⟩) (px (.ref C) ds M) := ⟨fun h =>
  hs_of (r.go (L2N.pmk_own PySem.F.excBase_ValueError o.h.q o.h.g o.h.k (raises_own o.h.b o.h.t) (k.k.gl x mm.h.mem).1 (k.k.gl x mm.h.mem).2)) fun n S F0 H0 F H σ D I g1 g2 g3 g4 g5 => g5 (.ref C) F H M σ ds (.refl _) I rfl h⟩
end
/-! ### except x as n: return isinstance(n, T), while an error is handled -/
/-- Y runs as X does, within a try, while an error is handled -/
structure TrH (X Y : Cx) : Prop where
  prog : Y.prog = X.prog
  w : Y.w = X.w
  K : Y.K = X.K
  mg : Y.mg = X.mg
  base : Y.base = X.base
  A : Y.A = X.A
  N : Y.N = X.N
  env : Y.env = X.env
  fn : Y.fn = X.fn
  hot : L2H.HotC Y
section
variable {X : Cx} {W : WX} {ds : Slots} {M : Mem} {pos pos' np p1 p2 p3 p4 p5 : Pos} {V L G B : List Str}
variable {pn : Slots → Mem → Prop} {pr : DV → Mem → Prop} {pb pc : Slots → Mem → Prop} {px : Value → Slots → Mem → Prop}
theorem hs_tryIsH {x n : Str} {C : Addr} {i : Nat} {body : List Stmt} (hot : L2H.HotC X) (hs : X.stack = X.env :: X.outer) (hf : X.env.frame = some X.env.locals) (tk : Takes X W) (o : OwnE X.K X.mg x C) (k : Kx X V L G B) (mx : Mm G x) (mn : Mm V n) (m1 : Mm B "isinstance") (m2 : Mm B "ValueError")
    (hi : (ds.map (·.1))[i]? = some n) (hln : X.env.kindOf n = some .local)
    (h : ∀ Y W', TrH X Y → Takes Y W' → HSs Y W' body ds M ⟨pn, pr, pb, pc, fun cls ds' M' => IsQ X C pr cls M'⟩) :
    HS X W (.Try body [.ExceptHandler (some (.Name x np)) (some n) [.Return (some (.Call (.Name "isinstance" p1) [.Name n p2, .Name "ValueError" p3] [] p4)) p5] pos'] [] [] pos) ds M ⟨pn, pr, pb, pc, px⟩ := fun hN => by
  obtain ⟨pp, hot1, hpp⟩ := hot
  refine hs_of (L2H.ps_try_asH (i := i) (tb := fun W' D σ H => ∀ pns xe, (∀ q ∈ X.pn, q ∈ pns) → Takes (X.tr pns xe) W' → tSs (X.tr pns xe) body D σ H) (ts := tIs X.K i) hs hf k.nd (by rw [hN]; exact hi) hln ⟨(k.gl x mx.mem).1, (k.gl x mx.mem).2, .inl o.g⟩ tk
    (fun W' pns xe hsub tk' pass => ⟨fun pins s σ H D I h => h pns xe hsub tk' pins s I⟩)
    (fun a oe cls d pns hz hfl => ⟨fun pins s σ H D I q => by
      obtain ⟨De, b, rfl, rfl, hC, hk, hσ, hr⟩ := q
      refine (pss_one (ps_ret (pe_callB (call_isE hC hz hfl) (k.bl _ m1.mem).1 (k.bl _ m1.mem).2.1 (by decide +kernel)
        (pa_cons (pe_var (i := i) (by show X.N[i]? = _; rw [hN]; exact hi) (k.vis n mn.mem).1 (k.vis n mn.mem).2.1 (k.vis n mn.mem).2.2) (pa_cons (pe_bltn (v := .ty "ValueError") (k.bl _ m2.mem).1 (k.bl _ m2.mem).2.1 (by decide +kernel) rfl (k.bl _ m2.mem).2.2.1 (k.bl _ m2.mem).2.2.2) pa_nil rfl) rfl)
        (k.bl _ m1.mem).2.2.1 (k.bl _ m1.mem).2.2.2 rfl rfl))).run pins s σ H D I ?_
      exact ⟨_, hσ, .ty "ValueError", .type "ValueError", b, rfl, fun u hu => hu, hk, hr⟩⟩)) (fun n' S F0 H0 F H σ D I g1 g2 g3 g4 g5 pns xe hsub tk' =>
    h (X.tr pns xe) _ ⟨rfl, rfl, rfl, rfl, rfl, rfl, rfl, rfl, rfl, ⟨pp, hot1, hsub pp hpp⟩⟩ tk' n' S F0 H0 F H σ D I g1 g2 g3 g4 fun cls F' H' M' σ' ds' s1 I1 n1 q1 => by
      obtain ⟨De, b, rfl, hsub2, hC, hk, hr⟩ := q1
      refine ⟨true, PySem.W.exm_ref o.b o.h o.t hsub2, fun _ a ha => ⟨De, b, rfl, rfl, hC, hk, ?_, g2 (.bl b) F' H' M' σ' ds' _ s1 I1 (VOk.dat (.bl b)) hr⟩, fun z => by cases z⟩
      have hl : i < σ'.length := by
        have e1 := I1.env.len
        have e2 := congrArg List.length n1
        have e3 := (List.getElem?_eq_some_iff.mp hi).1
        simp only [List.length_map] at e2 e3
        omega
      rw [List.getElem?_set_self hl]) hN
end
/-! ### try, its suites while the error is handled -/
/-- a suite's context, its error handled -/
structure SuH (X Y : Cx) : Prop where
  prog : Y.prog = X.prog
  w : Y.w = X.w
  K : Y.K = X.K
  mg : Y.mg = X.mg
  base : Y.base = X.base
  N : Y.N = X.N
  env : Y.env = X.env
  fn : Y.fn = X.fn
  hot : L2H.HotC Y
  room : L2H.RoomH 5 Y.A
theorem SuH.kx {X Y : Cx} {V L G B : List Str} (t : SuH X Y) (k : Kx X V L G B) : Kx Y V L G B := k.same t.N t.env t.mg t.fn
theorem TrH.kx {X Y : Cx} {V L G B : List Str} (t : TrH X Y) (k : Kx X V L G B) : Kx Y V L G B := k.same t.N t.env t.mg t.fn
def HandH (X : Cx) : List (Addr × List Stmt) → Value → Slots → Mem → Po → Prop
  | [], cls, ds, M, P => P.x cls ds M
  | (c, suite) :: r, cls, ds, M, P => ∃ b, PySem.W.subIn X.K cls (.ref c) = some b ∧ if b = true then (∀ Y, SuH X Y → HSs Y W0 suite ds M ⟨P.n, P.r, P.b, P.c, fun _ _ _ => False⟩) else HandH X r cls ds M P
def tsN (X : Cx) (suite : List Stmt) (a : Addr) (cls : Value) (d : Option Addr) : TS := fun D σ H => ∀ oe pn, L2N.Zn cls d oe → (∃ vs, oe.data = .fields vs) → tSs (X.suite a ((a, oe) :: pn)) suite D σ H
def whN (X : Cx) (l : List (Addr × List Stmt)) : List (Value × (Addr → Value → Option Addr → TS)) := l.map fun q => (.ref q.1, tsN X q.2)
section
variable {X : Cx} {W : WX} {ds : Slots} {M : Mem} {pos : Pos} {V L G B : List Str}
variable {pn : Slots → Mem → Prop} {pr : DV → Mem → Prop} {pb pc : Slots → Mem → Prop} {px : Value → Slots → Mem → Prop}
theorem Hds.okN {hds : List ExceptHandler} {l : List (Addr × List Stmt)} (h : Hds X hds l) : L2N.HdsOk X hds (whN X l) := by
  induction h with
  | nil => exact .nil
  | cons o hc r ih =>
    exact .cons ⟨hc.1, hc.2, .inl o.g⟩ (fun a oe cls d pn z f => ⟨fun pins s σ H D I h => h oe pn z f pins s I⟩) ih
theorem wMany_ofN {S : Addr → Prop} {F0 H0 F H : Hp} {σ : L2.St} {D : L2.Ends} {cls : Value} {P : Po} {d : Nat} (hr : Rm d X.A) : ∀ {l : List (Addr × List Stmt)}, (∀ q ∈ l, ∃ x, OwnE X.K X.mg x q.1) → X.N = ds.map (·.1) → In X.K S F0 H0 F H M σ ds → HandH X l cls ds M P →
    (∀ F' H' M' σ' ds', Same F F' → In X.K S F0 H0 F' H' M' σ' ds' → ds'.map (·.1) = ds.map (·.1) → P.n ds' M' → D.nx σ' H') →
    (∀ v F' H' M' σ' ds' dv, Same F F' → In X.K S F0 H0 F' H' M' σ' ds' → VOk X.K F' v dv → P.r dv M' → D.rt v H') →
    (∀ F' H' M' σ' ds', Same F F' → In X.K S F0 H0 F' H' M' σ' ds' → ds'.map (·.1) = ds.map (·.1) → P.b ds' M' → D.bk σ' H') →
    (∀ F' H' M' σ' ds', Same F F' → In X.K S F0 H0 F' H' M' σ' ds' → ds'.map (·.1) = ds.map (·.1) → P.c ds' M' → D.ct σ' H') →
    (∀ cls F' H' M' σ' ds', Same F F' → In X.K S F0 H0 F' H' M' σ' ds' → ds'.map (·.1) = ds.map (·.1) → P.x cls ds' M' → W cls none σ' H') → wMany X.K W D (whN X l) cls none σ H
  | [], _, n, I, h, g1, g2, g3, g4, g5 => g5 cls F H M σ ds (.refl _) I rfl h
  | (c, suite) :: r, ow, n, I, h, g1, g2, g3, g4, g5 => by
    obtain ⟨b, hb, h⟩ := h
    obtain ⟨x, o⟩ := ow (c, suite) List.mem_cons_self
    refine ⟨b, PySem.W.exm_ref o.b o.h o.t hb, fun e => ?_, fun e => ?_⟩
    · rw [if_pos e] at h
      intro a ha oe pn z f
      obtain ⟨vs, hvs⟩ := f
      exact h (X.suite a ((a, oe) :: pn)) ⟨rfl, rfl, rfl, rfl, rfl, rfl, rfl, rfl, ⟨(a, oe), ⟨rfl, vs, hvs, z.2.2 vs hvs⟩, List.mem_cons_self⟩, ⟨by have := hr.dp; show X.A.depth + _ < _; omega, by have := hr.un; show X.A.units + _ < _; omega⟩⟩ n S F0 H0 F H σ D I g1 g2 g3 g4 fun _ _ _ _ _ _ _ _ _ z => z.elim
    · rw [if_neg (by rw [e]; decide)] at h
      exact wMany_ofN hr (fun q hq => ow q (List.mem_cons_of_mem _ hq)) n I h g1 g2 g3 g4 g5
theorem hs_tryN {body : List Stmt} {h₀ : ExceptHandler} {hds : List ExceptHandler} {l : List (Addr × List Stmt)} {d : Nat} (hr : Rm d X.A) (hs : X.stack = X.env :: X.outer) (hf : X.env.frame = some X.env.locals) (hh : Hds X (h₀ :: hds) l) (hx : ∀ cls ds M, ¬ px cls ds M)
    (h : ∀ Y W', TrC X Y → L2N.Takes Y W' → HSs Y W' body ds M ⟨pn, pr, pb, pc, fun cls ds' M' => HandH X l cls ds' M' ⟨pn, pr, pb, pc, px⟩⟩) :
    HS X W (.Try body (h₀ :: hds) [] [] pos) ds M ⟨pn, pr, pb, pc, px⟩ :=
  hs_of (L2N.ps_try_many (Wout := fun _ _ _ _ => False) (tb := fun W' D σ H => ∀ pns xe, L2N.Takes (X.tr pns xe) W' → PassesOwn (model X.prog X.w) X.A X.env xe → tSs (X.tr pns xe) body D σ H) hs hf (fun u s' ⟨_, _, _, _, _, _, _, _, _, _, _, _, _, _, _, _, z⟩ => z.elim)
    (fun W' pns xe tk' pass => ⟨fun pins s σ H D I h => h pns xe tk' pass pins s I⟩) hh.okN) fun n S F0 H0 F H σ D I g1 g2 g3 g4 g5 pns xe tk' pass =>
    h (X.tr pns xe) _ ⟨rfl, rfl, rfl, rfl, rfl, rfl, rfl, rfl, rfl, rfl, rfl, rfl, pass⟩ tk' n S F0 H0 F H σ D I g1 g2 g3 g4 fun cls F' H' M' σ' ds' s1 I1 n1 q1 =>
      wMany_ofN hr hh.own (n.trans n1.symm) I1 q1 (fun F2 H2 M2 σ2 ds2 s2 I2 n2 q2 => g1 F2 H2 M2 σ2 ds2 (s1.trans s2) I2 (n2.trans n1) q2) (fun v F2 H2 M2 σ2 ds2 dv s2 I2 o2 q2 => g2 v F2 H2 M2 σ2 ds2 dv (s1.trans s2) I2 o2 q2)
        (fun F2 H2 M2 σ2 ds2 s2 I2 n2 q2 => g3 F2 H2 M2 σ2 ds2 (s1.trans s2) I2 (n2.trans n1) q2) (fun F2 H2 M2 σ2 ds2 s2 I2 n2 q2 => g4 F2 H2 M2 σ2 ds2 (s1.trans s2) I2 (n2.trans n1) q2)
        fun cls F2 H2 M2 σ2 ds2 s2 I2 n2 q2 => hx _ _ _ q2
end
/-! ### equality, where only units are known -/
class HuC (X : Cx) : Prop where
  h : X.A.units + 64 < cLine
section
variable {X : Cx} {W : WX} {a b : Expr} {ds : Slots} {M : Mem} {Xp : Value → Mem → Prop} {pos : Pos}
theorem eqQ_htU {R : Bool → Mem → Prop} (hu : X.A.units + 64 < cLine) (h : HE X W a ds M (fun x M1 => HE X W b ds M1 (fun y M2 => EqQ X x y fun z => R z M2) Xp) Xp) : HT X W (.Compare a [.Eq] [b] pos) ds M R Xp := by
  refine ht_cmp (OpR.or op_eq (op_eqP hu)) (od_eq.or od_eqD) (he_imp h fun _ _ q => he_imp q fun _ _ z => ?_) (nomark _)
  rcases z with ⟨b, s, q⟩ | ⟨d, e1, e2, f, q⟩
  · exact .inl (s.no _ false ⟨_, rfl, q⟩)
  · exact .inr ⟨d, d, e1, e2, f, f, true, by simp only [eqv_same f]; rfl, q⟩
theorem eqQ_heU {R : DV → Mem → Prop} (hu : X.A.units + 64 < cLine) (h : HE X W a ds M (fun x M1 => HE X W b ds M1 (fun y M2 => EqQ X x y fun z => R (.d (.bl z)) M2) Xp) Xp) : HE X W (.Compare a [.Eq] [b] pos) ds M R Xp := by
  refine he_cmp (OpR.or op_eq (op_eqP hu)) (od_eq.or od_eqD) (he_imp h fun _ _ q => he_imp q fun _ _ z => ?_) (nomark _)
  rcases z with ⟨b, s, q⟩ | ⟨d, e1, e2, f, q⟩
  · exact .inl (s.no _ false q)
  · exact .inr ⟨d, d, e1, e2, f, f, by simp only [eqv_same f]; exact q⟩
instance (priority := low) {R : Bool → Mem → Prop} [r : HuC X] : Step (HT X W (.Compare a [.Eq] [b] pos) ds M R Xp) (HE X W a ds M (fun x M1 => HE X W b ds M1 (fun y M2 => EqQ X x y fun z => R z M2) Xp) Xp) := ⟨fun h => eqQ_htU r.h h⟩
instance (priority := low) [r : HuC X] : Step (HE X W (.Compare a [.Eq] [b] pos) ds M R Xp) (HE X W a ds M (fun x M1 => HE X W b ds M1 (fun y M2 => EqQ X x y fun z => R (.d (.bl z)) M2) Xp) Xp) := ⟨fun h => eqQ_heU r.h h⟩
end
end CS

/-! CsItm: list(d.items()) of a dict that is data. -/
namespace CS
open PySem PySem.Spec PyProof.Rows L2
section
variable {X : Cx} {e : Expr} {te : TE} {p apos cpos pos : Pos}
def rItemsR : L2.V → Hp → VK → Prop := fun x H Q => ∃ (d : Addr) (kvs : List (Key × L2.V)), x = .ref d ∧ L2.Rd H d (.dK kvs) ∧
  ∀ (H' : Hp) (p : Addr) (ts : List Addr), (∀ b o, H b = some o → H' b = some o) → H p = none → (∀ t ∈ ts, H t = none) → p ∉ ts → H' p = some (.lst (ts.map L2.V.ref)) → Paired (fun (t : Addr) (q : Key × L2.V) => H' t = some (.tup [kV q.1, q.2])) ts kvs → Q (.ref p) H'
def tListItemsR (te : TE) : TE := fun σ H Q => te σ H fun x H1 => rItemsR x H1 Q
theorem pe_listItemsR (hc : X.calm = true) (he : PE X e te) (hg : Gl X "list") (hm : X.mg "list" = none) (hv : bootBuiltins "list" = some (.type "list")) (hbase : attributeBase e "items" X.env (eval e X.env) = eval e X.env) (hline : (apos.endLine == cpos.line) = true)
    (hs : starEach [.Call (.Attribute e "items" apos) [] [] cpos] X.env = (false, eval (.Call (.Attribute e "items" apos) [] [] cpos) X.env) :: starEach [] X.env) :
    PE X (.Call (.Name "list" p) [.Call (.Attribute e "items" apos) [] [] cpos] [] pos) (tListItemsR te) := by
  refine ⟨fun pins s σ H Q I hq => ?_⟩
  refine wpAny_Call_Name_kw (ld_blt I hg hm hv ?_)
  refine PyProof.Rows.callWith_type1 ?_ hs rfl
  rw [hs]
  show wpAny _ _ (spliced ((false, eval (.Call (.Attribute e "items" apos) [] [] cpos) X.env) :: backTo pos (starEach [] X.env))) _ _ s
  refine Calls.spliced_cons ?_
  refine wpAny_Call_method (T := "dict") (id := "dict.items") hbase rfl hline F.plainAttrs_dict F.slot_dict_items F.type_dict_items (thn (he.run pins s σ H _ I hq) fun u s1 ⟨x, H1, I1, rx, d, kvs, ex, hd, q⟩ => ?_)
  subst ex
  obtain rfl : u = Value.ref d := rx
  obtain ⟨hz, hs0, vs, kv, hdo⟩ := hd.ok I1.hok
  obtain ⟨ep, hat⟩ := hdo.dictAt
  have lk : kvs.length = vs.length := Paired.length kv
  have I2 : Inv X pins σ H1 { s1 with heap := s1.heap.push { cls := .type "dict_items", data := .fields #[.ref d] } } := I1.kept (t' := s1.toks) fun b ob q => Heap.get?_push_of_some _ q
  refine ⟨hdo.typeIs, hdo.mapOf.noDict, ?_⟩
  show wpAny _ _ (callWith cpos (.builtin "dict.items") [.ref d] [] []) _ X.xe s1
  refine method_meetsIn F.slot_dict_items F.entry_dict_items rfl (PySem.evalArgs_none ⟨rfl, hdo.typeIs, F.args_dict_items_1 _, _, meets_dict_items (mixKind X.prog X.w) d hs0, ⟨vs, hdo⟩, ?_⟩)
  refine Calls.spliced_nil ?_
  refine PySem.W.kdx_call (knd := mixKind X.prog X.w) (kvs := vs) (ep := ep) (I1.ok.hd hc) ⟨_, Heap.get?_push_size _ rfl, rfl, rfl⟩ (hat.push _) (by omega) fun h' tk acc c as hk hS hl hG hacc => ?_
  obtain ⟨H', k1, k2, k3, k4, k5, k6, J⟩ := LiI.items_laid (tk := tk) I2 hz kv hk hS hl hG hacc
  exact ⟨.ref _, H', J, rfl, q H' _ as k1 k2 k3 k4 k5 k6⟩
end
/-- the items of a dict, as data -/
def itmD (kvs : List (Ky × Dat)) : List Dat := kvs.map fun kv => .tup [keyD kv.1, kv.2]
open Classical in
theorem items_rp {K : PySem.W.Frag} {F H H' : Hp} {p : Addr} {ts : List Addr} {vs : List (Key × L2.V)} {kvs : List (Ky × Dat)} (fh : Same F H) (k1 : ∀ b o, H b = some o → H' b = some o) (k2 : H p = none) (k3 : ∀ t ∈ ts, H t = none) (k5 : H' p = some (.lst (ts.map L2.V.ref)))
    (k6 : Paired (fun (t : Addr) (q : Key × L2.V) => H' t = some (.tup [kV q.1, q.2])) ts vs) (r : RpK K F vs kvs) : ∃ F', Ext F H F' H' ∧ Rp K F' (.ref p) (.lst (itmD kvs)) := by
  let F' : Hp := fun b => match F b with
    | some o => some o
    | none => if b = p ∨ b ∈ ts then H' b else none
  have e1 : ∀ b o, F b = some o → F' b = some o := fun b o h => by show (match F b with | some o => some o | none => _) = _; rw [h]
  have e2 : ∀ b, F b = none → b = p ∨ b ∈ ts → F' b = H' b := fun b h z => by show (match F b with | some o => some o | none => _) = _; rw [h]; exact if_pos z
  have e3 : ∀ b, F b = none → ¬ (b = p ∨ b ∈ ts) → F' b = none := fun b h z => by show (match F b with | some o => some o | none => _) = _; rw [h]; exact if_neg z
  have fp : F p = none := fh.free k2
  have ft : ∀ t ∈ ts, F t = none := fun t h => fh.free (k3 t h)
  refine ⟨F', ⟨e1, k1, fun b o h => ?_, fun b o h n => ?_⟩, .lst ((e2 p fp (.inl rfl)).trans k5) ?_⟩
  · cases q : F b with
    | some u =>
      rw [e1 b u q] at h
      cases h
      exact k1 b _ (fh b _ q)
    | none =>
      by_cases z : b = p ∨ b ∈ ts
      · rw [e2 b q z] at h; exact h
      · rw [e3 b q z] at h; cases h
  · by_cases z : b = p ∨ b ∈ ts
    · rcases z with rfl | z
      · exact k2
      · exact k3 b z
    · rw [e3 b n z] at h; cases h
  · have go : ∀ (ts' : List Addr) (vs' : List (Key × L2.V)) (kvs' : List (Ky × Dat)), (∀ t ∈ ts', t ∈ ts) → Paired (fun (t : Addr) (q : Key × L2.V) => H' t = some (.tup [kV q.1, q.2])) ts' vs' → RpK K F vs' kvs' → RpL K F' (ts'.map L2.V.ref) (itmD kvs') := by
      intro ts' vs' kvs' hs hp hr
      induction hp generalizing kvs' with
      | nil => cases hr; exact .nil
      | cons h t ih =>
        cases hr with
        | cons hv hr' =>
          have hm := hs _ List.mem_cons_self
          exact .cons (.tup ((e2 _ (ft _ hm) (.inr hm)).trans h) (.cons (keyD_rp _) (.cons (hv.mono e1) .nil))) (ih _ (fun x hx => hs x (List.mem_cons_of_mem _ hx)) hr')
    exact go ts vs kvs (fun t h => h) k6 r
section
variable {X : Cx} {W : WX} {e : Expr} {ds : Slots} {M : Mem} {R : DV → Mem → Prop} {Xp : Value → Mem → Prop} {p apos cpos pos : Pos} {V L G B : List Str}
def DctP (x : DV) (k : List (Ky × Dat) → Prop) : Prop := ∃ kvs, x = .d (.dct kvs) ∧ k kvs
instance {kvs : List (Ky × Dat)} {k : List (Ky × Dat) → Prop} : Step (DctP (.d (.dct kvs)) k) (k kvs) := ⟨fun h => ⟨kvs, rfl, h⟩⟩
theorem he_listItems (hc : X.calm = true) (k : Kx X V L G B) (m : Mm B "list") (h : HE X W e ds M (fun dv M1 => DctP dv fun kvs => R (.d (.lst (itmD kvs))) M1) Xp) (hbase : attributeBase e "items" X.env (eval e X.env) = eval e X.env := by with_unfolding_all rfl) (hline : (apos.endLine == cpos.line) = true := by with_unfolding_all rfl)
    (hs : starEach [.Call (.Attribute e "items" apos) [] [] cpos] X.env = (false, eval (.Call (.Attribute e "items" apos) [] [] cpos) X.env) :: starEach [] X.env := by with_unfolding_all rfl) :
    HE X W (.Call (.Name "list" p) [.Call (.Attribute e "items" apos) [] [] cpos] [] pos) ds M R Xp :=
  he_of (pe_listItemsR hc (pe_t X e) (k.bl _ m.mem).1 (k.bl _ m.mem).2.1 (by decide +kernel) hbase hline hs) fun n S F0 H0 F H σ I Q q x => h n S F0 H0 F H σ I _ (fun v F1 H1 M1 dv s1 I1 o1 g1 => by
    obtain ⟨kvs, rfl, g⟩ := g1
    have o1 : Rp X.K F1 v (.dct kvs) := o1
    cases o1 with
    | dct hF r =>
      refine ⟨_, _, rfl, .inr ⟨_, I1.fh _ _ hF⟩, fun H' pa ts k1 k2 k3 k4 k5 k6 => ?_⟩
      obtain ⟨F', y, rp⟩ := items_rp I1.fh k1 k2 k3 k5 k6 r
      exact q _ F' H' M1 _ (s1.trans y.ff) (I1.ext y) (VOk.dat rp) g) x
class LnC (a b : Pos) : Prop where
  h : (a.endLine == b.line) = true
instance {l1 c1 e c2 c3 l4 c4 : Nat} : LnC ⟨l1, c1, e, c2⟩ ⟨e, c3, l4, c4⟩ := ⟨beq_self_eq_true e⟩
instance (priority := high) [c : Cc X] [k : Kc X V L G B] [m : MmC B "list"] [a : AcC e] [l : LnC apos cpos] [s : NS (.Call (.Attribute e "items" apos) [] [] cpos)] : Step (HE X W (.Call (.Name "list" p) [.Call (.Attribute e "items" apos) [] [] cpos] [] pos) ds M R Xp) (HE X W e ds M (fun dv M1 => DctP dv fun kvs => R (.d (.lst (itmD kvs))) M1) Xp) := ⟨fun h =>
  he_listItems c.h k.k m.h h (a.h _ _) l.h (s.h [] X.env)⟩
end
/-! ### xs.index(x), texts -/
/-- where x stands first -/
def ixS (x : Str) : List Str → Nat
  | [] => 0
  | y :: r => if y = x then 0 else ixS x r + 1
theorem ixS_at {x : Str} : ∀ {l : List Str}, x ∈ l → l[ixS x l]? = some x ∧ ∀ (m : Nat) (z : Str), m < ixS x l → l[m]? = some z → z ≠ x
  | y :: r, h => by
    rw [ixS]
    by_cases e : y = x
    · rw [if_pos e, e]
      exact ⟨rfl, fun m z hm _ => absurd hm (by omega)⟩
    · rw [if_neg e]
      have hr : x ∈ r := (List.mem_cons.mp h).resolve_left fun z => e z.symm
      obtain ⟨a, b⟩ := ixS_at hr
      refine ⟨by simpa using a, fun m z hm hz => ?_⟩
      cases m with
      | zero => cases hz; exact e
      | succ m => exact b m z (by omega) (by simpa using hz)
section
variable {X : Cx} {W : WX} {o e : Expr} {ds : Slots} {M : Mem} {R : DV → Mem → Prop} {Xp : Value → Mem → Prop} {apos pos : Pos}
theorem he_index (h : HE X W o ds M (fun x M1 => ∃ l : List Str, x = .d (.lst (l.map .str)) ∧ HA X W [e] ds M1 (fun dvs M2 => ∃ s : Str, dvs = [.d (.str s)] ∧ s ∈ l ∧ R (.d (.int (ixS s l : Nat))) M2) Xp) Xp) (hbase : attributeBase o "index" X.env (eval o X.env) = eval o X.env := by with_unfolding_all rfl)
    (hfew : ((backTo pos (starEach (e :: []) X.env)).all (fun x => !x.1) && (backToKw pos (keywordEach [] X.env)).all (fun x => x.1.isSome)
      && decide ((e :: []).length + ([] : List Keyword).length + (if ([] : List Keyword).isEmpty then 0 else 1) < 30)) = true := by with_unfolding_all rfl)
    (hline : (apos.endLine == pos.line) = true := by with_unfolding_all rfl) (hs : starEach (e :: []) X.env = (false, eval e X.env) :: starEach [] X.env := by with_unfolding_all rfl) (hplain : (backTo pos (starEach [] X.env)).any (·.1) = false := by with_unfolding_all rfl) : HE X W (.Call (.Attribute o "index" apos) [e] [] pos) ds M R Xp :=
  he_of (pe_bm PySem.F.plainAttrs_list PySem.F.slot_list_index PySem.F.type_list_index mt_index (pe_t X o) (pa_t X _) hbase hfew hline hs hplain) fun n S F0 H0 F H σ I Q q x => h n S F0 H0 F H σ I _ (fun v F1 H1 M1 dv s1 I1 o1 g1 => by
    obtain ⟨l, rfl, g⟩ := g1
    have o1 : Rp X.K F1 v (.lst (l.map .str)) := o1
    cases o1 with
    | lst hF r =>
      obtain rfl := r.str_inv
      refine ⟨.inl ⟨rfl, _, .of (I1.fh _ _ hF)⟩, g n S F0 H0 F1 H1 σ I1 _ (fun vs F2 H2 M2 dvs s2 I2 o2 g2 => ?_) fun cls F2 H2 M2 s2 I2 g2 => x cls F2 H2 M2 (s1.trans s2) I2 g2⟩
      obtain ⟨s, rfl, hm, g2⟩ := g2
      cases o2 with
      | cons oy on =>
        cases on
        have oy : Rp X.K F2 _ (.str s) := oy
        cases oy
        obtain ⟨a, b⟩ := ixS_at hm
        refine ⟨_, _, _, ixS s l, .str s, rfl, rfl, .of (I2.fh _ _ (s2 _ _ hF)), rfl, ?_, by rw [List.getElem?_map, a]; rfl, by show (s == s) = true; exact beq_self_eq_true s, fun m z' hmj hz => ?_, q _ F2 _ _ (.d (.int _)) (s1.trans s2) I2 (VOk.dat (.int _)) g2⟩
        · rw [List.all_eq_true]
          intro y hy
          obtain ⟨t, _, rfl⟩ := List.mem_map.mp hy
          rfl
        · rw [List.getElem?_map] at hz
          obtain ⟨t, ht, rfl⟩ := Option.map_eq_some_iff.mp hz
          show (t == s) = false
          exact Bool.eq_false_iff.mpr fun z => b m t hmj ht (beq_iff_eq.mp z)) x
end
end CS

/-! CsKci: isinstance(x, C), x an instance of the own class C. -/
namespace CS
open PySem L2
structure KitI (K : PySem.W.Frag) (C : Addr) : Prop where
  cls : Cls K C
  ha : PySem.W.findIn K (.ref C) "__class__" = some (some (.builtin "object.__class__"))
  hn : PySem.W.specialIn K (.builtin "object.__class__") "__get__" = some (some (.builtin "getset_descriptor.__get__"))
  ht : PySem.W.takesIn K (.builtin "object.__class__") = some true
  hm : PySem.W.mroIn K C (.type "object") = some true
class KitIC (X : Cx) (y : Str) (C : outParam Addr) : Prop where
  h : KitI X.K C ∧ X.mg y = some (.ref C)
section
variable {X : Cx} {W : WX} {e : Expr} {ds : Slots} {M : Mem} {R : DV → Mem → Prop} {Xp : Value → Mem → Prop} {pos p2 p3 : Pos} {V L G B : List Str}
def IsK (M : Mem) (C : Addr) (x : DV) (k : Prop) : Prop := ObjP M x fun _ _ m => ∃ dx fs, m = .ins C dx fs ∧ k
instance {M : Mem} {p C dx : Addr} {i : Nat} {fs : List (Str × DV)} {k : Prop} [a : AtM M p i (.ins C dx fs)] : Step (IsK M C (.m p) k) k := ⟨fun h => ⟨p, i, _, rfl, a.h, dx, fs, rfl, h⟩⟩
theorem he_isK {y : Str} {C : Addr} (o : KitI X.K C) (g : X.mg y = some (.ref C)) (k : Kx X V L G B) (m : Mm B "isinstance") (mm : Mm G y) (h : HE X W e ds M (fun x M1 => IsK M1 C x (R (.d (.bl true)) M1)) Xp)
    (he : starEach (e :: [.Name y p3]) X.env = (false, eval e X.env) :: starEach [.Name y p3] X.env := by with_unfolding_all rfl) (hpl : (backTo pos (starEach [.Name y p3] X.env)).any (·.1) = false := by with_unfolding_all rfl) :
    HE X W (.Call (.Name "isinstance" p2) [e, .Name y p3] [] pos) ds M R Xp :=
  he_of (pe_callB call_isi (k.bl _ m.mem).1 (k.bl _ m.mem).2.1 (by decide +kernel) (pa_cons (pe_t X e) (pa_cons (pe_glob (v := .ref C) (k.gl y mm.mem).1 g rfl (k.gl y mm.mem).2) pa_nil rfl) he) (k.bl _ m.mem).2.2.1 (k.bl _ m.mem).2.2.2 he hpl)
    fun n S F0 H0 F H σ I Q q x => h n S F0 H0 F H σ I _ (fun v F1 H1 M1 dv s1 I1 o1 g1 => by
      obtain ⟨p, i, m, rfl, hi, dx, fs, rfl, g⟩ := g1
      have o1 : v = .ref p := o1
      subst o1
      obtain ⟨_, u, hu, ou⟩ := I1.mem _ (List.mem_of_getElem? hi)
      cases ou with
      | ins vf => exact ⟨_, .ref C, .ref C, .ref C, true, rfl, .own C, .base (.ins hu o.cls o.ha o.hn o.ht o.hm), (by unfold PySem.W.kitOne; rw [if_pos (beq_self_eq_true _)]), q _ F1 H1 M1 _ s1 I1 (VOk.dat (.bl true)) g⟩) x
instance {y : Str} {C : Addr} [o : KitIC X y C] [k : Kc X V L G B] [m : MmC B "isinstance"] [mm : MmC G y] [s : NS e] : Step (HE X W (.Call (.Name "isinstance" p2) [e, .Name y p3] [] pos) ds M R Xp) (HE X W e ds M (fun x M1 => IsK M1 C x (R (.d (.bl true)) M1)) Xp) := ⟨fun h =>
  he_isK o.h.1 o.h.2 k.k m.h mm.h h (s.h _ X.env) rfl⟩
end
end CS

/-! CsNin: zip of three lists, comprehensions over pairs, lists within a dict, x in l of triples. -/
namespace CS
open PySem L2
/-! ### zip of three lists -/
section
open PySem.Spec PyProof.Rows
/-- three lists, item by item in new tuples -/
def Itz3 (K : PySem.W.Frag) (a b c : Addr) : It :=
  ⟨fun i H => ∃ (xs ys zs : List V) (x y z : V), SqL K H a xs ∧ SqL K H b ys ∧ SqL K H c zs ∧ xs[i]? = some x ∧ ys[i]? = some y ∧ zs[i]? = some z,
    fun i H v H' => ∃ T x y z, v = .ref T ∧ H T = none ∧ H' = upd H T (.tup [x, y, z]) ∧ (∀ xs, SqL K H a xs → xs[i]? = some x) ∧ (∀ ys, SqL K H b ys → ys[i]? = some y) ∧ ∀ zs, SqL K H c zs → zs[i]? = some z,
    fun i H => ∃ xs ys zs : List V, SqL K H a xs ∧ SqL K H b ys ∧ SqL K H c zs ∧ i ≤ xs.length ∧ i ≤ ys.length ∧ i ≤ zs.length ∧ (i = xs.length ∨ i = ys.length ∨ i = zs.length)⟩
def cells3 (z TI TO i1 i2 i3 : Addr) : List Addr := [z, TI, TO, i1, i2, i3]
theorem neA {m n : Nat} (h : ¬ m = n) : (m : Addr) ≠ n := h
theorem nm2 {x a b : Nat} (h1 : ¬ x = a) (h2 : ¬ x = b) : (x : Addr) ∉ ([a, b] : List Addr) := fun z => by
  rcases List.mem_cons.mp z with z | z
  · exact h1 z
  · exact h2 (List.mem_singleton.mp z)
theorem sep3 {N a b c : Nat} (ha : a < N) (hb : b < N) (hc : c < N) : ZipSep3 (N + 5) (N + 3) (N + 4) N (N + 1) (N + 2) [N, a] [N + 1, b] [N + 2, c] := by
  constructor <;> first | (refine neA ?_; omega) | (refine nm2 ?_ ?_ <;> omega) | exact List.mem_cons_self
theorem turn_zip3 {P : Program} {w : World} {K : PySem.W.Frag} {elts : List Expr} {kk : Nat} {tpos : Pos} {N a b c : Nat} (ha : a < N) (hb : b < N) (hc : c < N) :
    Turn P w K (.Tuple elts kk tpos) (Itz3 K a b c) (cells3 (N + 5) (N + 3) (N + 4) N (N + 1) (N + 2)) (N + 5) (fun i h => IsZip h (N + 5) (N + 3) (N + 4) .none ∧ IsTupOf3 h (N + 3) (.ref N) (.ref (N + 1)) (.ref (N + 2)) ∧ (∃ x y z, IsTupOf3 h (N + 4) x y z) ∧ h.IsListIter N a i ∧ h.IsListIter (N + 1) b i ∧ h.IsListIter (N + 2) c i) := by
  have S := sep3 ha hb hc
  have inC : ∀ d, d ∈ cells3 (N + 5) (N + 3) (N + 4) N (N + 1) (N + 2) ↔ d = N + 5 ∨ d = N + 3 ∨ d = N + 4 ∨ d = N ∨ d = N + 1 ∨ d = N + 2 := fun d => by simp [cells3]
  refine ⟨by simp [cells3], fun i h st d hd => ?_, fun i h h' st k => ?_, ?_, ?_, fun A i s Q E st h => wpAny_pyIter_zip st.1 h⟩
  · obtain ⟨q1, q2, ⟨x, y, z, q3⟩, ⟨o1, e1, _, d1⟩, ⟨o2, e2, _, d2⟩, ⟨o3, e3, _, d3⟩⟩ := st
    rcases (inC d).mp hd with rfl | rfl | rfl | rfl | rfl | rfl
    · exact ⟨_, q1, fun v z => nomatch z⟩
    · exact ⟨_, q2, fun v z => nomatch z⟩
    · exact ⟨_, q3, fun v z => nomatch z⟩
    · exact ⟨o1, e1, fun v z => by rw [d1] at z; cases z⟩
    · exact ⟨o2, e2, fun v z => by rw [d2] at z; cases z⟩
    · exact ⟨o3, e3, fun v z => by rw [d3] at z; cases z⟩
  · obtain ⟨q1, q2, ⟨x, y, z, q3⟩, q4, q5, q6⟩ := st
    have kk : ∀ d, (d = N + 5 ∨ d = N + 3 ∨ d = N + 4 ∨ d = N ∨ d = N + 1 ∨ d = N + 2) → ∀ o, h.get? d = some o → h'.get? d = some o := fun d hd => k d ((inC d).mpr hd)
    exact ⟨kk _ (.inl rfl) _ q1, kk _ (.inr (.inl rfl)) _ q2, ⟨x, y, z, kk _ (.inr (.inr (.inl rfl))) _ q3⟩, q4.at fun o => kk N (.inr (.inr (.inr (.inl rfl)))) o, q5.at fun o => kk (N + 1) (.inr (.inr (.inr (.inr (.inl rfl))))) o, q6.at fun o => kk (N + 2) (.inr (.inr (.inr (.inr (.inr rfl))))) o⟩
  · intro X hP hw hK hcc i pins s σ H E I hf st hg
    subst hP hw hK
    obtain ⟨q1, q2, ⟨x0, y0, z0, q3⟩, q4, q5, q6⟩ := st
    obtain ⟨xs, ys, zs, x, y, z, sx, sy, sz, hx, hy, hz⟩ := hg
    obtain ⟨us, ru, pu, _⟩ := I.list sx
    obtain ⟨ws, rw', pw, _⟩ := I.list sy
    obtain ⟨ts, rt', pt, _⟩ := I.list sz
    have lx : i < us.toArray.size := by rw [List.size_toArray, ← ru.length]; exact (List.getElem?_eq_some_iff.mp hx).1
    have ly : i < ws.toArray.size := by rw [List.size_toArray, ← rw'.length]; exact (List.getElem?_eq_some_iff.mp hy).1
    have lz : i < ts.toArray.size := by rw [List.size_toArray, ← rt'.length]; exact (List.getElem?_eq_some_iff.mp hz).1
    have zl : N + 5 < s.heap.objs.size := Heap.lt_size q1
    have calm : X.A.in1.handled = none := I.ok.hd hcc
    refine wpAny_pyNext_zipD3_item S (Draws.list calm N a (Nat.ne_of_lt ha) us.toArray) (Draws.list calm (N + 1) b (neA (by omega)) ws.toArray) (Draws.list calm (N + 2) c (neA (by omega)) ts.toArray) q1 q2 q3 ⟨q4, pu.isList⟩ ⟨q5, pw.isList⟩ ⟨q6, pt.isList⟩ lx ly lz fun u v t h' tk gu gv gt z' TO' n1 n2 n3 tp sz' keep => ?_
    obtain ⟨u', hu', ru'⟩ := ru.get hx
    obtain ⟨v', hv', rv'⟩ := rw'.get hy
    obtain ⟨t', ht', rt2⟩ := rt'.get hz
    obtain rfl : u = u' := by
      have gu : us.toArray[i]? = some u := gu
      rw [List.getElem?_toArray, hu'] at gu
      exact (Option.some.inj gu).symm
    obtain rfl : v = v' := by
      have gv : ws.toArray[i]? = some v := gv
      rw [List.getElem?_toArray, hv'] at gv
      exact (Option.some.inj gv).symm
    obtain rfl : t = t' := by
      have gt : ts.toArray[i]? = some t := gt
      rw [List.getElem?_toArray, ht'] at gt
      exact (Option.some.inj gt).symm
    refine ⟨_, rfl, wpAny_letOwnedTupleGo_zip (s := { s with heap := h', toks := tk }) z' fun h'' z'' sb => ?_⟩
    have tp2 : h''.get? s.heap.objs.size = some { cls := .type "tuple", data := .seq #[u, v, t] } := (sb.2 _ (Nat.ne_of_gt zl)).trans tp
    have new : ObjOk X.prog X.w (upd H s.heap.objs.size (.tup [x, y, z])) h'' s.heap.objs.size (.tup [x, y, z]) := ⟨by show 3 ≤ sizeLine; decide, [u, v, t], .cons ru' (.cons rv' (.cons rt2 .nil)), ⟨_, tp2, rfl, _, rfl⟩⟩
    have out : ∀ d o, d ∉ cells3 (N + 5) (N + 3) (N + 4) N (N + 1) (N + 2) → s.heap.get? d = some o → h''.get? d = some o := fun d o hb q => by
      have nb : ∀ e, (e = N + 5 ∨ e = N + 3 ∨ e = N + 4 ∨ e = N ∨ e = N + 1 ∨ e = N + 2) → d ≠ e := fun e hd he => hb ((inC d).mpr (he ▸ hd))
      exact (sb.2 d (nb _ (.inl rfl))).trans (keep d o (nb _ (.inl rfl)) (nb _ (.inr (.inr (.inl rfl)))) (nb _ (.inr (.inr (.inr (.inl rfl))))) (nb _ (.inr (.inr (.inr (.inr (.inl rfl)))))) (nb _ (.inr (.inr (.inr (.inr (.inr rfl)))))) q)
    have J : Inv X pins σ (upd H s.heap.objs.size (.tup [x, y, z])) { s with heap := h'', toks := tk } := I.turnedNew (t' := tk) (ch := cells3 (N + 5) (N + 3) (N + 4) N (N + 1) (N + 2)) out hf (Nat.le_refl _) new
    refine ⟨.ref s.heap.objs.size, _, J, rfl, ⟨_, x, y, z, rfl, I.hok.fresh (Nat.le_refl _), rfl, fun l hl => by rw [I.list_inj hl sx]; exact hx, fun l hl => by rw [I.list_inj hl sy]; exact hy, fun l hl => by rw [I.list_inj hl sz]; exact hz⟩, ⟨z'', ?_, ⟨u, v, t, ?_⟩, ?_, ?_, ?_⟩, fun d hdm => ?_⟩
    · exact (sb.2 _ S.TIz).trans (keep _ _ S.TIz S.TITO S.TIi1 S.TIi2 S.TIi3 q2)
    · exact (sb.2 _ S.TOz).trans TO'
    · exact n1.1.at fun o q => (sb.2 _ (neA (by omega))).trans q
    · exact n2.1.at fun o q => (sb.2 _ (neA (by omega))).trans q
    · exact n3.1.at fun o q => (sb.2 _ (neA (by omega))).trans q
    · have lt : d < s.heap.objs.size := by
        have zl2 : @LT.lt Nat instLTNat (N + 5) s.heap.objs.size := zl
        have L : ∀ m : Nat, m ≤ N + 5 → @LT.lt Nat instLTNat m s.heap.objs.size := fun m hm => Nat.lt_of_le_of_lt hm zl2
        rcases (inC d).mp hdm with rfl | rfl | rfl | rfl | rfl | rfl
        · exact zl
        · exact L _ (Nat.add_le_add_left (by decide) N)
        · exact L _ (Nat.add_le_add_left (by decide) N)
        · exact L _ (Nat.le_add_right _ _)
        · exact L _ (Nat.add_le_add_left (by decide) N)
        · exact L _ (Nat.add_le_add_left (by decide) N)
      rw [upd_ne (Nat.ne_of_lt lt)]
      exact (hf d hdm).1
  · intro X hP hw hK hcc i pins s σ H E I hf st hg
    subst hP hw hK
    obtain ⟨q1, q2, ⟨x0, y0, z0, q3⟩, q4, q5, q6⟩ := st
    obtain ⟨xs, ys, zs, sx, sy, sz, l1, l2, l3, hend⟩ := hg
    obtain ⟨us, ru, pu, _⟩ := I.list sx
    obtain ⟨ws, rw', pw, _⟩ := I.list sy
    obtain ⟨ts, rt', pt, _⟩ := I.list sz
    have e1 : us.toArray.size = xs.length := by rw [List.size_toArray, ← ru.length]
    have e2 : ws.toArray.size = ys.length := by rw [List.size_toArray, ← rw'.length]
    have e3 : ts.toArray.size = zs.length := by rw [List.size_toArray, ← rt'.length]
    have calm : X.A.in1.handled = none := I.ok.hd hcc
    refine wpAny_pyNext_zipD3_end S (Draws.list calm N a (Nat.ne_of_lt ha) us.toArray) (Draws.list calm (N + 1) b (neA (by omega)) ws.toArray) (Draws.list calm (N + 2) c (neA (by omega)) ts.toArray) q1 q2 q3 ⟨q4, pu.isList⟩ ⟨q5, pw.isList⟩ ⟨q6, pt.isList⟩ (by rw [e1]; exact l1) (by rw [e2]; exact l2) (by rw [e3]; exact l3) (by rw [e1, e2, e3]; exact hend) fun h' tk keep => ⟨rfl, ?_⟩
    refine I.turnedL (t' := tk) (ch := cells3 (N + 5) (N + 3) (N + 4) N (N + 1) (N + 2)) (fun d o hb q => ?_) hf
    have nb : ∀ e, (e = N + 5 ∨ e = N + 3 ∨ e = N + 4 ∨ e = N ∨ e = N + 1 ∨ e = N + 2) → d ≠ e := fun e hd he => hb ((inC d).mpr (he ▸ hd))
    exact keep d o (nb _ (.inl rfl)) (nb _ (.inr (.inr (.inl rfl)))) (nb _ (.inr (.inr (.inr (.inl rfl))))) (nb _ (.inr (.inr (.inr (.inr (.inl rfl)))))) (nb _ (.inr (.inr (.inr (.inr (.inr rfl)))))) q
def iZip3 (K : PySem.W.Frag) (ta : TA) : TI := fun σ H R => ta σ H fun vs H1 => ∃ a b c xs ys zs, vs = [.ref a, .ref b, .ref c] ∧ SqL K H1 a xs ∧ SqL K H1 b ys ∧ SqL K H1 c zs ∧ R (Itz3 K a b c) H1
theorem pi_zip3 {X : Cx} {e e2 e3 : Expr} {ta : TA} {p pos tpos : Pos} {elts : List Expr} {kk : Nat} (hg : Gl X "zip") (hm : X.mg "zip" = none) (ha : PA X [e, e2, e3] ta)
    (hs : starEach [e, e2, e3] X.env = (false, eval e X.env) :: starEach [e2, e3] X.env) (hpl : (backTo pos (starEach [e2, e3] X.env)).any (·.1) = false) : PI X (.Tuple elts kk tpos) (.Call (.Name "zip" p) [e, e2, e3] [] pos) (iZip3 X.K ta) := by
  refine ⟨fun pins s σ H R I h => Call_ (ld_blt I hg hm PyProof.Rows.boot_zip (PyProof.Rows.callWith_type1 (thn (ha.run pos pins s σ H _ I h) fun us s1 hh => ?_) hs hpl))⟩
  obtain ⟨vs, H1, I1, r1, a, b, c, xs, ys, zs, rfl, sx, sy, sz, q⟩ := hh
  cases r1 with
  | cons r rr =>
    cases rr with
    | cons r' rr =>
      cases rr with
      | cons r3 rr =>
        cases rr
        cases r
        cases r'
        cases r3
        obtain ⟨its, ru, pu, _⟩ := I1.list sx
        obtain ⟨its2, rw', pw, _⟩ := I1.list sy
        obtain ⟨its3, rt', pt, _⟩ := I1.list sz
        refine zip_begins3 (begins_list a its.toArray) (begins_list b its2.toArray) (begins_list c its3.toArray) pu.isList pw.isList pt.isList fun h' c1 c2 c3 g1 g2 g3 sz' keep => wpAny_pyIter_zip c1 ?_
        have J : Inv X pins σ H1 { s1 with heap := h' } := I1.kept (t' := s1.toks) keep
        refine ⟨s1.heap.objs.size + 5, cells3 (s1.heap.objs.size + 5) (s1.heap.objs.size + 3) (s1.heap.objs.size + 4) s1.heap.objs.size (s1.heap.objs.size + 1) (s1.heap.objs.size + 2), _, _, H1, rfl, J, turn_zip3 pu.lt pw.lt pt.lt, ⟨c1, c2, ⟨_, _, _, c3⟩, ⟨_, g1, rfl, rfl⟩, ⟨_, g2, rfl, rfl⟩, ⟨_, g3, rfl, rfl⟩⟩, fun d hd => ?_, q⟩
        have hle : s1.heap.objs.size ≤ d := by
          simp only [cells3, List.mem_cons, List.not_mem_nil, or_false] at hd
          rcases hd with rfl | rfl | rfl | rfl | rfl | rfl <;> first | exact Nat.le_refl _ | exact Nat.le_add_right _ _
        exact I1.fpOk hle (I1.hok.fresh hle)
end
def zipT3 : List Dat → List Dat → List Dat → List Dat
  | x :: xs, y :: ys, z :: zs => .tup [x, y, z] :: zipT3 xs ys zs
  | _, _, _ => []
theorem zipT3_len : ∀ xs ys zs, (zipT3 xs ys zs).length = min xs.length (min ys.length zs.length)
  | [], _, _ => by simp [zipT3]
  | _ :: _, [], _ => by simp [zipT3]
  | _ :: _, _ :: _, [] => by simp [zipT3]
  | x :: xs, y :: ys, z :: zs => by
    rw [zipT3, List.length_cons, zipT3_len xs ys zs, List.length_cons, List.length_cons, List.length_cons]
    omega
theorem zipT3_get : ∀ {xs ys zs : List Dat} {i : Nat} {x y z : Dat}, xs[i]? = some x → ys[i]? = some y → zs[i]? = some z → (zipT3 xs ys zs)[i]? = some (.tup [x, y, z])
  | [], _, _, _, _, _, _, h, _, _ => by simp at h
  | _ :: _, [], _, _, _, _, _, _, h, _ => by simp at h
  | _ :: _, _ :: _, [], _, _, _, _, _, _, h => by simp at h
  | _ :: _, _ :: _, _ :: _, 0, _, _, _, h1, h2, h3 => by cases h1; cases h2; cases h3; rfl
  | _ :: xs, _ :: ys, _ :: zs, i + 1, _, _, _, h1, h2, h3 => by
    rw [zipT3, List.getElem?_cons_succ]
    exact zipT3_get (xs := xs) (ys := ys) (zs := zs) (by simpa using h1) (by simpa using h2) (by simpa using h3)
theorem itd_zip3 {K : PySem.W.Frag} {F : Hp} {a b c : Addr} {vs ws ts : List L2.V} {xs ys zs : List Dat} (ha : F a = some (.lst vs)) (hb : F b = some (.lst ws)) (hc : F c = some (.lst ts)) (rx : RpL K F vs xs) (ry : RpL K F ws ys) (rz : RpL K F ts zs) : ItD K (Itz3 K a b c) F (zipT3 xs ys zs) := fun F' H' s1 s2 i => by
  have pa : SqL K H' a vs := .of (s2 _ _ (s1 _ _ ha))
  have pb : SqL K H' b ws := .of (s2 _ _ (s1 _ _ hb))
  have pc : SqL K H' c ts := .of (s2 _ _ (s1 _ _ hc))
  have l1 := rx.len
  have l2 := ry.len
  have l3 := rz.len
  rw [zipT3_len]
  refine ⟨fun h => ?_, fun h => ?_, fun v H2 hy hi => ?_⟩
  · have h1 : i < vs.length := by omega
    have h2 : i < ws.length := by omega
    have h3 : i < ts.length := by omega
    exact ⟨vs, ws, ts, vs[i], ws[i], ts[i], pa, pb, pc, List.getElem?_eq_getElem h1, List.getElem?_eq_getElem h2, List.getElem?_eq_getElem h3⟩
  · exact ⟨vs, ws, ts, pa, pb, pc, by omega, by omega, by omega, by omega⟩
  · obtain ⟨T, x, y, z, rfl, hT, rfl, gx, gy, gz⟩ := hy
    obtain ⟨dx, ex, ox⟩ := rx.getV (gx vs pa)
    obtain ⟨dy, ey, oy⟩ := ry.getV (gy ws pb)
    obtain ⟨dz, ez, oz⟩ := rz.getV (gz ts pc)
    have y := Ext.lay (.tup [x, y, z]) s2 hT
    exact ⟨_, .tup [dx, dy, dz], y, zipT3_get ex ey ez, .tup upd_same (.cons ((ox.mono s1).mono y.ff) (.cons ((oy.mono s1).mono y.ff) (.cons ((oz.mono s1).mono y.ff) .nil)))⟩
section
variable {X : Cx} {W : WX} {e e2 e3 : Expr} {ds : Slots} {M : Mem} {Xp : Value → Mem → Prop} {V' L G B : List Str} {p pos tpos : Pos} {elts : List Expr} {kk : Nat}
def ZipLP3 (dvs : List DV) (k : List Dat → Prop) : Prop := ∃ xs ys zs, dvs = [.d (.lst xs), .d (.lst ys), .d (.lst zs)] ∧ k (zipT3 xs ys zs)
instance {xs ys zs : List Dat} {k : List Dat → Prop} : Step (ZipLP3 [.d (.lst xs), .d (.lst ys), .d (.lst zs)] k) (k (zipT3 xs ys zs)) := ⟨fun h => ⟨xs, ys, zs, rfl, h⟩⟩
theorem hiZL3 {k : List Dat → Mem → Prop} [kc : Kc X V' L G B] [m : MmC B "zip"] [s : NS e] [s2 : NSs [e2, e3]] (h : HA X W [e, e2, e3] ds M (fun dvs M1 => ZipLP3 dvs fun xs => k xs M1) Xp) :
    HI X W (.Tuple elts kk tpos) (.Call (.Name "zip" p) [e, e2, e3] [] pos) ds M k Xp := fun n =>
  ⟨_, pi_zip3 (kc.k.bl _ m.h.mem).1 (kc.k.bl _ m.h.mem).2.1 (pa_t X _) (s.h [e2, e3] X.env) (s2.back pos X.env), fun S F0 H0 F H σ I Q q x => h n S F0 H0 F H σ I _ (fun vs F1 H1 M1 dvs s1 I1 o1 g1 => by
    obtain ⟨xs, ys, zs, rfl, g⟩ := g1
    cases o1 with
    | cons oa o2 =>
      cases o2 with
      | cons ob o3 =>
        cases o3 with
        | cons oc o4 =>
          cases o4
          have oa : Rp X.K F1 _ (.lst xs) := oa
          have ob : Rp X.K F1 _ (.lst ys) := ob
          have oc : Rp X.K F1 _ (.lst zs) := oc
          cases oa with
          | lst hF r =>
            cases ob with
            | lst hF2 r2 =>
              cases oc with
              | lst hF3 r3 => exact ⟨_, _, _, _, _, _, rfl, .of (I1.fh _ _ hF), .of (I1.fh _ _ hF2), .of (I1.fh _ _ hF3), q _ _ F1 H1 M1 s1 I1 (itd_zip3 hF hF2 hF3 r r2 r3) g⟩) x⟩
end
/-! ### [.. for x, y in ..] as a value -/
section
variable {X : Cx} {W : WX} {elt iter : Expr} {ds : Slots} {M : Mem} {pos p1 p2 tpos : Pos} {kk : Nat} {R : DV → Mem → Prop} {Xp : Value → Mem → Prop}
def Lc2Q (X : Cx) (W : WX) (elt : Expr) (x y : Str) (i j : Nat) (tg iter : Expr) (V' L' G' B' : List Str) (g : Dat → Dat) (ds : Slots) (M : Mem) (R : DV → Mem → Prop) (Xp : Value → Mem → Prop) : Prop :=
  HI X W tg iter ds M (fun xs M1 => xs.length ≤ 1000000 ∧ (∀ (D : Addr) (acc : List Dat) (n : Nat) (u : Dat), xs[n]? = some u → ∃ a b, u = .tup [a, b] ∧ UpP (wipeD ds [i, j]) x i (.d a) fun ds1 => UpP ds1 y j (.d b) fun ds2 =>
    Blk X V' L' G' B' fun Y => HE Y W0 elt ds2 (Acc M1 D acc) (fun dv M3 => dv = .d (g u) ∧ M3 = Acc M1 D acc) (fun _ _ => False)) ∧ Dn R (xs.map g) M1) Xp
theorem lc2 {S scope : Scope} {N BB : List Str} {V' L' G' B' : List Str} {x y : Str} {i j : Nat} (g : Dat → Dat) (hc : X.calm = true) (nd : X.N.Nodup) (nn : X.N = N) (sc : X.env.scope = S) (hm : ∀ x ∈ BB, X.mg x = none)
    (h1 : blkC N S scope [(x, i), (y, j)] = true) (h2 : kxB (relS S scope) N V' L' G' B' BB false = true) (hi1 : N[i]? = some x) (hj1 : N[j]? = some y) (hl1 : Mm L' x) (hl2 : Mm L' y)
    (hi : Lc2Q X W elt x y i j (.Tuple [.Name x p1, .Name y p2] kk tpos) iter V' L' G' B' g ds M R Xp)
    (hs : ∀ z, foldedSetIterable iter X.env z = pure z := by intro _; with_unfolding_all rfl) : HE X W (.ListComp elt [⟨.Tuple [.Name x p1, .Name y p2] kk tpos, iter, [], 0⟩] scope pos) ds M R Xp := by
  have kb := kx_blk (X := X) h2 sc nn hm
  have kY : ∀ (s : Shared) (H : Hp) (C : Addr) (cl : List (Str × Addr)) (fp : List Addr), SameC X (X.blk s H scope (compEnvC scope cl C X.env) fp) := fun s H C cl fp => ⟨rfl, rfl, rfl, rfl, rfl, rfl, rfl⟩
  refine he_lc (own := [(x, i), (y, j)]) (is := [i, j]) (f := fTup 2 (fCons (fName x i) (fCons (fName y j) fNil))) hc nd (blk_ok nn sc h1) (by simp) (fun s H C cl fp => ?_) (gs_tup (gs_cons gs_name (gs_cons gs_name gs_nil))) ?_ hs
  · have c : (X.blk s H scope (compEnvC scope cl C X.env) fp).calm = true := hc
    exact pg_tup (n := 2) c (pgs_cons (pg_nm (kb s H C cl fp) hl1 (by show X.N[i]? = _; rw [nn]; exact hi1)) (pgs_cons (pg_nm (kb s H C cl fp) hl2 (by show X.N[j]? = _; rw [nn]; exact hj1)) pgs_nil (by with_unfolding_all rfl)) (by with_unfolding_all rfl)) (by with_unfolding_all rfl) (by with_unfolding_all rfl)
  · intro n
    obtain ⟨wi, pi, hw⟩ := hi n
    refine ⟨wi, pi, fun S F0 H0 F H σ I Q q x' => hw S F0 H0 F H σ I Q (fun J xs F1 H1 M1 s1 I1 it lc => q J xs F1 H1 M1 s1 I1 it ?_) x'⟩
    obtain ⟨hz, turn, done⟩ := lc
    refine ⟨hz, fun n acc => acc = (xs.take n).map g, by simp, fun D n z acc hy hacc => ?_, fun acc e => ?_⟩
    · obtain ⟨a, b, rfl, ds1, u1, ds2, u2, he⟩ := turn D acc n z hy
      refine ⟨[a, b], rfl, rfl, a, [b], rfl, ds1, u1, b, [], rfl, ds2, u2, rfl, fun s H C cl fp => he_imp (he _ (kY s H C cl fp) (kb s H C cl fp)) ?_⟩
      rintro dv M3 ⟨rfl, rfl⟩
      refine ⟨rfl, _, rfl, ?_⟩
      show acc ++ [g (.tup [a, b])] = (xs.take (n + 1)).map g
      have hacc : acc = (xs.take n).map g := hacc
      rw [List.take_add_one, hy, Option.toList, List.map_append, hacc]
      rfl
    · have e : acc = (xs.take xs.length).map g := e
      rw [List.take_length] at e
      rw [e]
      exact done
end
/-! ### a list within a dict is data from here on -/
inductive FrzD (p : Addr) (d : Dat) : List (Ky × DV) → List (Ky × DV) → Prop
  | nil : FrzD p d [] []
  | hit {k : Ky} {r s : List (Ky × DV)} (h : FrzD p d r s) : FrzD p d ((k, .m p) :: r) ((k, .d d) :: s)
  | keep {k : Ky} {v : DV} {r s : List (Ky × DV)} (h : FrzD p d r s) : FrzD p d ((k, v) :: r) ((k, v) :: s)
theorem FrzD.vk {K : PySem.W.Frag} {F : Hp} {p : Addr} {d : Dat} (hp : Rp K F (.ref p) d) {r s : List (Ky × DV)} (h : FrzD p d r s) : ∀ {vs : List (Ky × L2.V)}, VK' K F vs r → VK' K F vs s := by
  induction h with
  | nil => exact fun e => e
  | hit h ih =>
    intro vs e
    cases e with
    | cons a r =>
      obtain rfl : _ = V.ref p := a
      exact .cons hp (ih r)
  | keep h ih =>
    intro vs e
    cases e with
    | cons a r => exact .cons a (ih r)
inductive FrzO2 (p : Addr) (d : Dat) : MO → MO → Prop
  | same (m : MO) : FrzO2 p d m m
  | dct {r s : List (Ky × DV)} (h : FrzD p d r s) : FrzO2 p d (.dct r) (.dct s)
inductive FrzM2 (p : Addr) (d : Dat) : Mem → Mem → Prop
  | rest (L : Mem) : FrzM2 p d L L
  | cons {a : Addr} {m m' : MO} {L L' : Mem} (h : FrzO2 p d m m') (r : FrzM2 p d L L') : FrzM2 p d ((a, m) :: L) ((a, m') :: L')
theorem FrzM2.keys {p : Addr} {d : Dat} {L L' : Mem} (h : FrzM2 p d L L') : L'.map (·.1) = L.map (·.1) := by
  induction h with
  | rest => rfl
  | cons h r ih => rw [List.map_cons, List.map_cons, ih]
theorem FrzM2.mem {p : Addr} {d : Dat} {L L' : Mem} (h : FrzM2 p d L L') : ∀ e ∈ L', ∃ m, (e.1, m) ∈ L ∧ FrzO2 p d m e.2 := by
  induction h with
  | rest => exact fun e he => ⟨e.2, he, .same _⟩
  | cons h r ih =>
    intro e he
    rcases List.mem_cons.mp he with rfl | he
    · exact ⟨_, List.mem_cons_self, h⟩
    · obtain ⟨m, a, b⟩ := ih e he
      exact ⟨m, List.mem_cons_of_mem _ a, b⟩
theorem FrzO2.ok {K : PySem.W.Frag} {F : Hp} {p : Addr} {d : Dat} (hp : Rp K F (.ref p) d) {m m' : MO} (h : FrzO2 p d m m') {o : HO} (ok : OOk K F o m) : OOk K F o m' := by
  cases h with
  | same => exact ok
  | dct h =>
    cases ok with
    | dct r => exact .dct (h.vk hp r)
theorem hss_frzK {X : Cx} {W : WX} {ds : Slots} {M M' : Mem} {st : List Stmt} {P : Po} {p : Addr} {i : Nat} {mo : MO} {d : Dat} {ds' : Slots} (hi : M[i]? = some (p, mo)) (hf : Frz mo d) (hs : FrzS p d ds ds') (hm : FrzM2 p d (M.eraseIdx i) M') (h : HSs X W st ds' M' P) : HSs X W st ds M P := fun n S F0 H0 F H σ D I g1 g2 g3 g4 g5 pins s I0 => by
  obtain ⟨F1, H1, o, sF, hp, ok, J, I1⟩ := I.freezeD hi hf I0
  have rp : Rp X.K F1 (.ref p) d := hf.rp hp (ok.mono sF)
  have nm := hs.names
  have J2 : In X.K S F0 H0 F1 H1 M' σ ds' := by
    refine ⟨hs.env rp J.env, J.ff, J.fh, J.new, J.keep, J.there, fun e he => ?_, fun e he => ?_, by rw [hm.keys]; exact J.nd⟩
    · obtain ⟨m, hm1, hm2⟩ := hm.mem e he
      obtain ⟨a, o2, b, c⟩ := J.mem _ hm1
      exact ⟨a, o2, b, hm2.ok rp c⟩
    · obtain ⟨m, hm1, hm2⟩ := hm.mem e he
      exact J.own (e.1, m) hm1
  exact h (n.trans nm.symm) S F0 H0 F1 H1 σ D J2 (fun F' H' M' σ' es s' I' n' q => g1 F' H' M' σ' es (sF.trans s') I' (n'.trans nm) q) (fun v F' H' M' σ' es dv s' I' o' q => g2 v F' H' M' σ' es dv (sF.trans s') I' o' q)
    (fun F' H' M' σ' es s' I' n' q => g3 F' H' M' σ' es (sF.trans s') I' (n'.trans nm) q) (fun F' H' M' σ' es s' I' n' q => g4 F' H' M' σ' es (sF.trans s') I' (n'.trans nm) q) (fun cls F' H' M' σ' es s' I' n' q => g5 cls F' H' M' σ' es (sF.trans s') I' (n'.trans nm) q) pins s I1
/-! ### list(..) that may change -/
section
variable {X : Cx} {W : WX} {e : Expr} {es : List Expr} {ds : Slots} {M : Mem} {pos p : Pos} {R : DV → Mem → Prop} {Xp : Value → Mem → Prop} {V' L G B : List Str}
theorem cd_listM {K : PySem.W.Frag} : CD K (fun xs H Q => ∃ p ys, xs = [.ref p] ∧ (SqL K H p ys ∨ SqT K H p ys) ∧ ∀ l, H l = none → Q (.ref l) (upd H l (.lst ys))) (fun as M R => ∃ a xs, as = [a] ∧ SeqD M a xs ∧ ∀ q, R (.m q) ((q, .lst (xs.map .d)) :: M)) := by
  rintro S F0 H0 F H M σ ds as vs R Q I o ⟨a, xs, rfl, hl, g⟩ q
  cases o with
  | cons o1 o2 =>
    cases o2
    obtain ⟨p, vs, rfl, hp, r⟩ := hl.get I o1
    exact ⟨p, vs, rfl, hp.imp .of .of, fun l hn => q _ F _ _ (.m l) (.refl _) (I.newC hn (.lst (VL.of_data r))) rfl (g l)⟩
theorem he_listM [k : Kc X V' L G B] [m : MmC B "list"] [s : NS e] (h : HA X W [e] ds M (fun as M1 => SeqP M1 as fun xs => ∀ q, R (.m q) ((q, .lst (xs.map .d)) :: M1)) Xp) : HE X W (.Call (.Name "list" p) [e] [] pos) ds M R Xp :=
  he_Ty call_list_of cd_listM k.k m.h (by decide +kernel) h (s.h [] X.env) rfl
end
/-! ### x in l, triples of numbers -/
def triD (q : Int × Int × Int) : Dat := .tup [.int q.1, .int q.2.1, .int q.2.2]
theorem triL_py : ∀ l : List (Int × Int × Int), Dat.pyL (l.map triD) = l.map fun q => (triD q).py
  | [] => rfl
  | q :: r => by rw [List.map_cons, Dat.pyL, triL_py r, List.map_cons]
theorem tri_lay (q : Int × Int × Int) : (triD q).py.canLay0 = true ∧ (triD q).py.depth = 1 := ⟨rfl, rfl⟩
theorem triL_lay : ∀ l : List (Int × Int × Int), PyData.canLayAll0 (l.map fun q => (triD q).py) = true ∧ PyData.depthAll (l.map fun q => (triD q).py) ≤ 1
  | [] => ⟨rfl, Nat.zero_le _⟩
  | q :: r => by
    obtain ⟨a, b⟩ := triL_lay r
    rw [List.map_cons]
    refine ⟨?_, ?_⟩
    · show ((triD q).py.canLay0 && PyData.canLayAll0 _) = true
      rw [a, (tri_lay q).1]; rfl
    · show max (triD q).py.depth (PyData.depthAll _) ≤ 1
      rw [(tri_lay q).2]; omega
theorem fits_tri (q : Int × Int × Int) : fits (triD q) 63 = true := by simp [triD, fits, fitsL]
section
variable {X : Cx} {W : WX} {a b : Expr} {ds : Slots} {M : Mem} {Xp : Value → Mem → Prop} {pos : Pos} {R : Bool → Mem → Prop}
theorem od_inT {K : PySem.W.Frag} : OD K (rInD K) (fun x y M R => ∃ (q : Int × Int × Int) (l : List (Int × Int × Int)), x = .d (triD q) ∧ y = .d (.lst (l.map triD)) ∧ q ∈ l ∧ R (.d (.bl true)) M) := by
  rintro S F0 H0 F H M σ ds a b v w R Q I oa ob ⟨t, l, rfl, rfl, hm, h⟩ q
  have o2 := Rp.dp I.fh (.lst (l.map triD)) 64 w (fits_lst (n := 63) (fitsL_all fun x hx => by obtain ⟨z, _, rfl⟩ := List.mem_map.mp hx; exact fits_tri z)) ob
  rw [show (Dat.lst (l.map triD)).py = .list (Dat.pyL (l.map triD)) from rfl, triL_py] at o2
  obtain ⟨e1, e2⟩ := triL_lay l
  refine ⟨(triD t).py, _, Rp.dp I.fh (triD t) 64 v (fits_mono _ (by decide) (fits_tri t)) oa, o2, rfl, ?_, ?_⟩
  · show (PyData.canLayAll0 _ && decide (PyData.depthAll _ + 1 ≤ 64)) = true
    rw [e1, Bool.true_and, decide_eq_true]
    omega
  · have e : ((l.map fun q => (triD q).py).any fun z => PyData.eqv z (triD t).py) = true := by
      rw [List.any_map, List.any_eq_true]
      exact ⟨t, hm, eqv_same (fits_mono _ (by decide) (fits_tri t))⟩
    rw [e]
    exact q _ F H M _ (.refl _) I (VOk.dat (.bl _)) h
theorem ht_inT [r : Rc X] (h : HE X W a ds M (fun x M1 => HE X W b ds M1 (fun y M2 => ∃ (q : Int × Int × Int) (l : List (Int × Int × Int)), x = .d (triD q) ∧ y = .d (.lst (l.map triD)) ∧ q ∈ l ∧ R true M2) Xp) Xp) (hm : behindInMarks .In b = false) : HT X W (.Compare a [.In] [b] pos) ds M R Xp :=
  r.h.elim fun _ hr => ht_cmp (op_inD (by have := hr.un; omega)) od_inT (he_imp h fun _ _ q => he_imp q fun _ _ ⟨t, l, e1, e2, hm, g⟩ => ⟨t, l, e1, e2, hm, true, rfl, g⟩) hm
end
end CS

/-! CsDeq: == of two dicts that are data; a thing within a list is data from here on. -/
namespace CS
open PySem PySem.Spec PyProof.Rows L2
/-- a dict's items, as data -/
def DK6 (K : PySem.W.Frag) (H : Hp) : List (Key × L2.V) → List (Key × PyData) → Prop := Paired fun p q => p.1 = q.1 ∧ Dp K H p.2 q.2
theorem dk6_keys {K : PySem.W.Frag} {H : Hp} {ks : List (Key × L2.V)} {ds : List (Key × PyData)} (h : DK6 K H ks ds) : ks.map (·.1) = ds.map (·.1) := by
  unfold DK6 at h
  induction h with
  | nil => rfl
  | cons a _ ih => rw [List.map_cons, List.map_cons, ih, a.1]
theorem dk6_at {K : PySem.W.Frag} {H : Hp} {ks : List (Key × L2.V)} {ds : List (Key × PyData)} (h : DK6 K H ks ds) : ∀ q ∈ ds, ∃ v, (q.1, v) ∈ ks ∧ Dp K H v q.2 := by
  unfold DK6 at h
  induction h with
  | nil => exact fun q hq => absurd hq List.not_mem_nil
  | @cons a b _ _ p _ ih =>
    intro q hq
    rcases List.mem_cons.mp hq with rfl | hq
    · exact ⟨a.2, by rw [← p.1]; exact List.mem_cons_self, p.2⟩
    · obtain ⟨v, h1, h2⟩ := ih q hq
      exact ⟨v, List.mem_cons_of_mem _ h1, h2⟩
section
variable {X : Cx}
theorem hits6 {A : Around} {pins : List (Addr × Obj)} {σ : L2.St} {H : Hp} {s : Shared} (I : Inv X pins σ H s) (hu : A.units + 64 < cLine) {vb : List (Key × Value)} {ks : List (Key × L2.V)} {va : List (Key × Value)} (ra : KV ks va) : ∀ {ds : List (Key × PyData)}, DK6 X.K H ks ds →
    (∀ q ∈ ds, q.2.plain = true ∧ q.2.depth ≤ 64 ∧ ∃ v u, valueAt vb q.1 = some u ∧ RelV v u ∧ Dp X.K H v q.2) → PySem.W.KeqHits A s vb va true := by
  unfold KV at ra
  induction ra with
  | nil => intro _ _ _; exact .nil
  | @cons p q ps qs h t ih =>
    intro ds hd hp
    unfold DK6 at hd
    cases hd with
    | @cons _ d _ ds' e r =>
      obtain ⟨pl, dp, v, u, hv, rv, dv⟩ := hp d List.mem_cons_self
      obtain ⟨h1, h2⟩ := h
      obtain ⟨e1, e2⟩ := e
      obtain ⟨k, y⟩ := q
      have h1' : p.1 = k := h1
      rw [← e1, h1'] at hv
      obtain ⟨as, r1⟩ := Dp.reads I d.2 p.2 _ e2 h2
      obtain ⟨bs, r2⟩ := Dp.reads I d.2 v _ dv rv
      have q := SeqAt.eqAt_plain d.2 d.2 A s y u as bs r1 r2 pl pl (by rw [Nat.min_self]; omega)
      rw [SeqAt.eqv_refl_plain _ pl] at q
      show PySem.W.KeqHits A s vb ((k, y) :: qs) (true && true)
      exact .hit hv q (ih r fun q' hm => hp q' (List.mem_cons_of_mem _ hm))
def rEqF (K : PySem.W.Frag) : R2 := fun x y H Q => ∃ a b ks ls ds, x = .ref a ∧ y = .ref b ∧ Rd H a (.dK ks) ∧ Rd H b (.dK ls) ∧ DK6 K H ks ds ∧ DK6 K H ls ds ∧ (ds.map (·.1)).Nodup ∧ (∀ q ∈ ds, q.2.plain = true ∧ q.2.depth ≤ 64) ∧ Q (.bl true) H
theorem op_eqF (hu : X.A.units + 66 < cLine) : OpR X (compareOp .Eq) (rEqF X.K) := by
  intro pins s σ H x y v u Q I rx ry h
  obtain ⟨a, b, ks, ls, ds, rfl, rfl, ea, eb, da, db, nd, pl, q⟩ := h
  obtain rfl : v = Value.ref a := rx
  obtain rfl : u = Value.ref b := ry
  obtain ⟨_, ya, va, ra, ga⟩ := dk_rd I.hok ea
  obtain ⟨_, yb, vb, rb, gb⟩ := dk_rd I.hok eb
  have hl : va.length = vb.length := by
    rw [← ra.length, ← rb.length]
    have e1 := congrArg List.length (dk6_keys da)
    have e2 := congrArg List.length (dk6_keys db)
    rw [List.length_map, List.length_map] at e1 e2
    omega
  refine PySem.W.keq_eq (knd := mixKind X.prog X.w) (r := true) ya yb ga gb (by omega) (fun _ => hits6 I (by show X.A.units + 1 + 64 < cLine; omega) ra da fun q hq => ?_) (fin_bl I q (by simp [hl]))
  obtain ⟨p1, p2⟩ := pl q hq
  obtain ⟨w, hw, dw⟩ := dk6_at db q hq
  have hval : valV ls q.1 = some w := val_nodup (by rw [dk6_keys db]; exact nd) (q.1, w) hw
  have rr : RelO (some w) (valueAt vb q.1) := by rw [← hval]; exact rb.val q.1
  obtain ⟨u, hu2, ru⟩ := rr.some_of
  exact ⟨p1, p2, w, u, hu2, ru, dw⟩
end
theorem rpk_dk {K : PySem.W.Frag} {F H : Hp} (s : Same F H) : ∀ {vs : List (Key × L2.V)} {ds : List (Key × Dat)}, RpK K F vs ds → (∀ q ∈ ds, fits q.2 64 = true) → DK6 K H vs (ds.map fun q => (q.1, q.2.py))
  | _, _, .nil, _ => .nil
  | _, _, .cons a r, h => .cons ⟨rfl, Rp.dp s _ 64 _ (h _ List.mem_cons_self) a⟩ (rpk_dk s r fun q hq => h q (List.mem_cons_of_mem _ hq))
theorem od_eqF {K : PySem.W.Frag} : OD K (rEqF K) (fun x y M R => ∃ kvs, x = .d (.dct kvs) ∧ y = .d (.dct kvs) ∧ (kvs.map (·.1)).Nodup ∧ (∀ q ∈ kvs, fits q.2 64 = true) ∧ R (.d (.bl true)) M) := by
  rintro S F0 H0 F H M σ ds a b v w R Q I oa ob ⟨kvs, rfl, rfl, nd, hf, h⟩ q
  have oa : Rp K F v (.dct kvs) := oa
  have ob : Rp K F w (.dct kvs) := ob
  cases oa with
  | dct h1 r1 =>
    cases ob with
    | dct h2 r2 =>
      refine ⟨_, _, _, _, kvs.map fun q => (q.1, q.2.py), rfl, rfl, .inr ⟨_, I.fh _ _ h1⟩, .inr ⟨_, I.fh _ _ h2⟩, rpk_dk I.fh r1 hf, rpk_dk I.fh r2 hf, ?_, fun p hp => ?_, q _ F H M _ (.refl _) I (VOk.dat (.bl _)) h⟩
      · rw [List.map_map]; exact nd
      · obtain ⟨z, hz, rfl⟩ := List.mem_map.mp hp
        exact fits_lay z.2 64 (hf z hz)
section
variable {X : Cx} {W : WX} {a b : Expr} {ds : Slots} {M : Mem} {Xp : Value → Mem → Prop} {pos : Pos}
theorem he_eqF [r : Rc X] {R : DV → Mem → Prop} (h : HE X W a ds M (fun x M1 => HE X W b ds M1 (fun y M2 => ∃ kvs, x = .d (.dct kvs) ∧ y = .d (.dct kvs) ∧ (kvs.map (·.1)).Nodup ∧ (∀ q ∈ kvs, fits q.2 64 = true) ∧ R (.d (.bl true)) M2) Xp) Xp) : HE X W (.Compare a [.Eq] [b] pos) ds M R Xp :=
  r.h.elim fun _ hr => he_cmp (op_eqF (by have := hr.un; omega)) od_eqF h (nomark _)
end
/-! ### a thing within a list is data from here on -/
inductive FrzL6 (p : Addr) (d : Dat) : List DV → List DV → Prop
  | nil : FrzL6 p d [] []
  | hit {r s : List DV} (h : FrzL6 p d r s) : FrzL6 p d (.m p :: r) (.d d :: s)
  | keep {v : DV} {r s : List DV} (h : FrzL6 p d r s) : FrzL6 p d (v :: r) (v :: s)
theorem FrzL6.vl {K : PySem.W.Frag} {F : Hp} {p : Addr} {d : Dat} (hp : Rp K F (.ref p) d) {r s : List DV} (h : FrzL6 p d r s) : ∀ {vs : List L2.V}, VL K F vs r → VL K F vs s := by
  induction h with
  | nil => exact fun e => e
  | hit h ih =>
    intro vs e
    cases e with
    | cons a r =>
      obtain rfl : _ = L2.V.ref p := a
      exact .cons hp (ih r)
  | keep h ih =>
    intro vs e
    cases e with
    | cons a r => exact .cons a (ih r)
inductive FrzM3 (p : Addr) (d : Dat) : Mem → Mem → Prop
  | rest (L : Mem) : FrzM3 p d L L
  | lst {a : Addr} {m m' : List DV} {L : Mem} (h : FrzL6 p d m m') : FrzM3 p d ((a, .lst m) :: L) ((a, .lst m') :: L)
theorem FrzM3.keys {p : Addr} {d : Dat} {L L' : Mem} (h : FrzM3 p d L L') : L'.map (·.1) = L.map (·.1) := by
  cases h <;> rfl
theorem hss_frzL {X : Cx} {W : WX} {ds : Slots} {M M' : Mem} {st : List Stmt} {P : Po} {p : Addr} {i : Nat} {mo : MO} {d : Dat} {ds' : Slots} (hi : M[i]? = some (p, mo)) (hf : Frz mo d) (hs : FrzS p d ds ds') (hm : FrzM3 p d (M.eraseIdx i) M') (h : HSs X W st ds' M' P) : HSs X W st ds M P := fun n S F0 H0 F H σ D I g1 g2 g3 g4 g5 pins s I0 => by
  obtain ⟨F1, H1, o, sF, hp, ok, J, I1⟩ := I.freezeD hi hf I0
  have rp : Rp X.K F1 (.ref p) d := hf.rp hp (ok.mono sF)
  have nm := hs.names
  have J2 : In X.K S F0 H0 F1 H1 M' σ ds' := by
    refine ⟨hs.env rp J.env, J.ff, J.fh, J.new, J.keep, J.there, fun e he => ?_, fun e he => ?_, by rw [hm.keys]; exact J.nd⟩
    · generalize M.eraseIdx i = Z at hm J
      cases hm with
      | rest => exact J.mem _ he
      | lst hq =>
        rcases List.mem_cons.mp he with rfl | he
        · obtain ⟨a, o2, b, c⟩ := J.mem _ List.mem_cons_self
          refine ⟨a, o2, b, ?_⟩
          cases c with
          | lst r => exact .lst (hq.vl rp r)
        · exact J.mem _ (List.mem_cons_of_mem _ he)
    · generalize M.eraseIdx i = Z at hm J
      cases hm with
      | rest => exact J.own _ he
      | lst hq =>
        rename_i a1 m1 m2 L1
        rcases List.mem_cons.mp he with rfl | he
        · exact J.own (a1, .lst m1) List.mem_cons_self
        · exact J.own _ (List.mem_cons_of_mem _ he)
  exact h (n.trans nm.symm) S F0 H0 F1 H1 σ D J2 (fun F' H' M' σ' es s' I' n' q => g1 F' H' M' σ' es (sF.trans s') I' (n'.trans nm) q) (fun v F' H' M' σ' es dv s' I' o' q => g2 v F' H' M' σ' es dv (sF.trans s') I' o' q)
    (fun F' H' M' σ' es s' I' n' q => g3 F' H' M' σ' es (sF.trans s') I' (n'.trans nm) q) (fun F' H' M' σ' es s' I' n' q => g4 F' H' M' σ' es (sF.trans s') I' (n'.trans nm) q) (fun cls F' H' M' σ' es s' I' n' q => g5 cls F' H' M' σ' es (sF.trans s') I' (n'.trans nm) q) pins s I1
end CS

namespace CS
open PySem L2
def topS (i : Nat) : Stmt := PySem.Challenge.pw_callsmith_k06_rows_done.main.body.getD i (.Pass ⟨0, 0, 0, 0⟩)
abbrev BB : List Str := ["abs", "bool", "dict", "int", "isinstance", "len", "list", "min", "range", "str", "tuple"]
/-! reckoned -/
abbrev s_reckoned : Stmt := topS 10
abbrev n_reckoned : List Str := ["word", "one", "other", "found"]
theorem sc_reckoned : FnScope n_reckoned ["word", "one", "other"] (defScope s_reckoned) := ⟨rfl, rfl, rfl, by decide +kernel, rfl, by decide +kernel, by decide +kernel⟩
theorem kx_reckoned {X : Cx} (hs : X.env.scope = defScope s_reckoned) (hN : X.N = n_reckoned) (hf : X.fn = fun _ => true) (hm : ∀ x ∈ BB, X.mg x = none) : Kx X ["word", "one", "other", "found"] ["word", "one", "other", "found"] ["ByNought", "MOST", "TooGreat"] [] := kx_of (BB := BB) (by decide +kernel) hs hN hf hm
theorem bd_reckoned {K : PySem.W.Frag} {f : Addr} {fd : FuncData} (F : Fun K "reckoned" "reckoned" s_reckoned f fd) : Binds K fd ["word", "one", "other"] [] := F.binds fun _ _ _ _ _ _ us hl => match us, hl with | [_, _, _], _ => rfl
/-! need_start -/
abbrev s_need_start : Stmt := topS 12
abbrev n_need_start : List Str := ["counts", "name", "values"]
theorem sc_need_start : FnScope n_need_start ["counts", "name", "values"] (defScope s_need_start) := ⟨rfl, rfl, rfl, by decide +kernel, rfl, by decide +kernel, by decide +kernel⟩
theorem kx_need_start {X : Cx} (hs : X.env.scope = defScope s_need_start) (hN : X.N = n_need_start) (hf : X.fn = fun _ => true) (hm : ∀ x ∈ BB, X.mg x = none) : Kx X ["counts", "name", "values"] ["counts", "name", "values"] ["NoSuchFunction", "WrongCount"] ["len"] := kx_of (BB := BB) (by decide +kernel) hs hN hf hm
theorem bd_need_start {K : PySem.W.Frag} {f : Addr} {fd : FuncData} (F : Fun K "need_start" "need_start" s_need_start f fd) : Binds K fd ["counts", "name", "values"] [] := F.binds fun _ _ _ _ _ _ us hl => match us, hl with | [_, _, _], _ => rfl
/-! Machine.__init__ -/
abbrev s_Machine_init : Stmt := inClass (topS 15) 0
abbrev n_Machine_init : List Str := ["self", "rows", "fuel"]
theorem sc_Machine_init : FnScope n_Machine_init ["self", "rows", "fuel"] (defScope s_Machine_init) := ⟨rfl, rfl, rfl, by decide +kernel, rfl, by decide +kernel, by decide +kernel⟩
theorem kx_Machine_init {X : Cx} (hs : X.env.scope = defScope s_Machine_init) (hN : X.N = n_Machine_init) (hf : X.fn = fun _ => true) (hm : ∀ x ∈ BB, X.mg x = none) : Kx X ["self", "rows", "fuel"] ["self", "rows", "fuel"] [] [] := kx_of (BB := BB) (by decide +kernel) hs hN hf hm
/-! Machine.enter -/
abbrev s_Machine_enter : Stmt := inClass (topS 15) 1
abbrev n_Machine_enter : List Str := ["self", "row", "numbers", "room"]
theorem sc_Machine_enter : FnScope n_Machine_enter ["self", "row", "numbers", "room"] (defScope s_Machine_enter) := ⟨rfl, rfl, rfl, by decide +kernel, rfl, by decide +kernel, by decide +kernel⟩
theorem kx_Machine_enter {X : Cx} (hs : X.env.scope = defScope s_Machine_enter) (hN : X.N = n_Machine_enter) (hf : X.fn = fun _ => true) (hm : ∀ x ∈ BB, X.mg x = none) : Kx X ["self", "row", "numbers", "room"] ["self", "row", "numbers", "room"] ["DEEPEST", "TooDeep", "Dry"] ["len"] := kx_of (BB := BB) (by decide +kernel) hs hN hf hm
/-! Machine.call -/
abbrev s_Machine_call : Stmt := inClass (topS 15) 2
abbrev n_Machine_call : List Str := ["self", "row", "cut", "numbers"]
theorem sc_Machine_call : FnScope n_Machine_call ["self", "row"] (defScope s_Machine_call) := ⟨rfl, rfl, rfl, by decide +kernel, rfl, by decide +kernel, by decide +kernel⟩
theorem kx_Machine_call {X : Cx} (hs : X.env.scope = defScope s_Machine_call) (hN : X.N = n_Machine_call) (hf : X.fn = fun _ => true) (hm : ∀ x ∈ BB, X.mg x = none) : Kx X ["self", "row", "cut", "numbers"] ["self", "row", "cut", "numbers"] [] ["len"] := kx_of (BB := BB) (by decide +kernel) hs hN hf hm
/-! Machine.work -/
abbrev s_Machine_work : Stmt := inClass (topS 15) 3
abbrev n_Machine_work : List Str := ["self", "row", "slots", "other", "one", "frame"]
theorem sc_Machine_work : FnScope n_Machine_work ["self"] (defScope s_Machine_work) := ⟨rfl, rfl, rfl, by decide +kernel, rfl, by decide +kernel, by decide +kernel⟩
theorem kx_Machine_work {X : Cx} (hs : X.env.scope = defScope s_Machine_work) (hN : X.N = n_Machine_work) (hf : X.fn = fun _ => true) (hm : ∀ x ∈ BB, X.mg x = none) : Kx X ["self", "row", "slots", "other", "one", "frame"] ["self", "row", "slots", "other", "one", "frame"] ["reckoned"] [] := kx_of (BB := BB) (by decide +kernel) hs hN hf hm
/-! went -/
abbrev s_went : Stmt := topS 16
abbrev n_went : List Str := ["machine", "start", "values"]
theorem sc_went : FnScope n_went ["machine", "start", "values"] (defScope s_went) := ⟨rfl, rfl, rfl, by decide +kernel, rfl, by decide +kernel, by decide +kernel⟩
theorem kx_went {X : Cx} (hs : X.env.scope = defScope s_went) (hN : X.N = n_went) (hf : X.fn = fun _ => true) (hm : ∀ x ∈ BB, X.mg x = none) : Kx X ["machine", "start", "values"] ["machine", "start", "values"] [] ["len"] := kx_of (BB := BB) (by decide +kernel) hs hN hf hm
theorem bd_went {K : PySem.W.Frag} {f : Addr} {fd : FuncData} (F : Fun K "went" "went" s_went f fd) : Binds K fd ["machine", "start", "values"] [] := F.binds fun _ _ _ _ _ _ us hl => match us, hl with | [_, _, _], _ => rfl
/-! run -/
abbrev s_run : Stmt := topS 17
abbrev n_run : List Str := ["code", "name", "values", "fuel", "counts", "one", "machine", "found"]
theorem sc_run : FnScope n_run ["code", "name", "values", "fuel"] (defScope s_run) := ⟨rfl, rfl, rfl, by decide +kernel, rfl, by decide +kernel, by decide +kernel⟩
theorem kx_run {X : Cx} (hs : X.env.scope = defScope s_run) (hN : X.N = n_run) (hf : X.fn = fun _ => true) (hm : ∀ x ∈ BB, X.mg x = none) : Kx X ["code", "name", "values", "fuel", "counts", "one", "machine", "found"] ["code", "name", "values", "fuel", "counts", "one", "machine", "found"] ["need_start", "Machine", "went", "ByNought", "TooGreat", "TooDeep", "Dry"] ["list"] := kx_of (BB := BB) (by decide +kernel) hs hN hf hm
theorem bd_run {K : PySem.W.Frag} {f : Addr} {fd : FuncData} (F : Fun K "run" "run" s_run f fd) : Binds K fd ["code", "name", "values", "fuel"] [] := F.binds fun _ _ _ _ _ _ us hl => match us, hl with | [_, _, _, _], _ => rfl
/-! Code.__init__ -/
abbrev s_Code_init : Stmt := inClass (topS 19) 0
abbrev n_Code_init : List Str := ["self", "rows", "starts"]
theorem sc_Code_init : FnScope n_Code_init ["self", "rows", "starts"] (defScope s_Code_init) := ⟨rfl, rfl, rfl, by decide +kernel, rfl, by decide +kernel, by decide +kernel⟩
theorem kx_Code_init {X : Cx} (hs : X.env.scope = defScope s_Code_init) (hN : X.N = n_Code_init) (hf : X.fn = fun _ => true) (hm : ∀ x ∈ BB, X.mg x = none) : Kx X ["self", "rows", "starts"] ["self", "rows", "starts"] [] [] := kx_of (BB := BB) (by decide +kernel) hs hN hf hm
/-! _law_cell_at -/
abbrev s_law_cell_at : Stmt := topS 21
abbrev n_law_cell_at : List Str := ["_law_script", "_law_k"]
theorem sc_law_cell_at : FnScope n_law_cell_at ["_law_script", "_law_k"] (defScope s_law_cell_at) := ⟨rfl, rfl, rfl, by decide +kernel, rfl, by decide +kernel, by decide +kernel⟩
theorem kx_law_cell_at {X : Cx} (hs : X.env.scope = defScope s_law_cell_at) (hN : X.N = n_law_cell_at) (hf : X.fn = fun _ => true) (hm : ∀ x ∈ BB, X.mg x = none) : Kx X ["_law_script", "_law_k"] ["_law_script", "_law_k"] [] ["len"] := kx_of (BB := BB) (by decide +kernel) hs hN hf hm
theorem bd_law_cell_at {K : PySem.W.Frag} {f : Addr} {fd : FuncData} (F : Fun K "_law_cell_at" "_law_cell_at" s_law_cell_at f fd) : Binds K fd ["_law_script", "_law_k"] [] := F.binds fun _ _ _ _ _ _ us hl => match us, hl with | [_, _], _ => rfl
/-! _law_number -/
abbrev s_law_number : Stmt := topS 22
abbrev n_law_number : List Str := ["_law_cell"]
theorem sc_law_number : FnScope n_law_number ["_law_cell"] (defScope s_law_number) := ⟨rfl, rfl, rfl, by decide +kernel, rfl, by decide +kernel, by decide +kernel⟩
theorem kx_law_number {X : Cx} (hs : X.env.scope = defScope s_law_number) (hN : X.N = n_law_number) (hf : X.fn = fun _ => true) (hm : ∀ x ∈ BB, X.mg x = none) : Kx X ["_law_cell"] ["_law_cell"] [] [] := kx_of (BB := BB) (by decide +kernel) hs hN hf hm
theorem bd_law_number {K : PySem.W.Frag} {f : Addr} {fd : FuncData} (F : Fun K "_law_number" "_law_number" s_law_number f fd) : Binds K fd ["_law_cell"] [] := F.binds fun _ _ _ _ _ _ us hl => match us, hl with | [_], _ => rfl
/-! _law_deed -/
abbrev s_law_deed : Stmt := topS 23
abbrev n_law_deed : List Str := ["_law_word", "_law_one", "_law_other", "_law_found"]
theorem sc_law_deed : FnScope n_law_deed ["_law_word", "_law_one", "_law_other"] (defScope s_law_deed) := ⟨rfl, rfl, rfl, by decide +kernel, rfl, by decide +kernel, by decide +kernel⟩
theorem kx_law_deed {X : Cx} (hs : X.env.scope = defScope s_law_deed) (hN : X.N = n_law_deed) (hf : X.fn = fun _ => true) (hm : ∀ x ∈ BB, X.mg x = none) : Kx X ["_law_word", "_law_one", "_law_other", "_law_found"] ["_law_word", "_law_one", "_law_other", "_law_found"] [] ["int", "abs"] := kx_of (BB := BB) (by decide +kernel) hs hN hf hm
theorem bd_law_deed {K : PySem.W.Frag} {f : Addr} {fd : FuncData} (F : Fun K "_law_deed" "_law_deed" s_law_deed f fd) : Binds K fd ["_law_word", "_law_one", "_law_other"] [] := F.binds fun _ _ _ _ _ _ us hl => match us, hl with | [_, _, _], _ => rfl
/-! _law_called -/
abbrev s_law_called : Stmt := topS 24
abbrev n_law_called : List Str := ["_law_numbers", "_law_state", "_law_fuel", "_law_found"]
theorem sc_law_called : FnScope n_law_called ["_law_numbers", "_law_state", "_law_fuel"] (defScope s_law_called) := ⟨rfl, rfl, rfl, by decide +kernel, rfl, by decide +kernel, by decide +kernel⟩
theorem kx_law_called {X : Cx} (hs : X.env.scope = defScope s_law_called) (hN : X.N = n_law_called) (hf : X.fn = fun _ => true) (hm : ∀ x ∈ BB, X.mg x = none) : Kx X ["_law_numbers", "_law_state", "_law_fuel", "_law_found"] ["_law_numbers", "_law_state", "_law_fuel", "_law_found"] ["_law_deed"] ["isinstance", "str"] := kx_of (BB := BB) (by decide +kernel) hs hN hf hm
theorem bd_law_called {K : PySem.W.Frag} {f : Addr} {fd : FuncData} (F : Fun K "_law_called" "_law_called" s_law_called f fd) : Binds K fd ["_law_numbers", "_law_state", "_law_fuel"] [] := F.binds fun _ _ _ _ _ _ us hl => match us, hl with | [_, _, _], _ => rfl
/-! _law_plain -/
abbrev s_law_plain : Stmt := topS 25
abbrev n_law_plain : List Str := ["_law_state", "_law_rows", "_law_kind", "_law_rest", "_law_at", "_law_number_here"]
theorem sc_law_plain : FnScope n_law_plain ["_law_state", "_law_rows", "_law_kind", "_law_rest"] (defScope s_law_plain) := ⟨rfl, rfl, rfl, by decide +kernel, rfl, by decide +kernel, by decide +kernel⟩
theorem kx_law_plain {X : Cx} (hs : X.env.scope = defScope s_law_plain) (hN : X.N = n_law_plain) (hf : X.fn = fun _ => true) (hm : ∀ x ∈ BB, X.mg x = none) : Kx X ["_law_state", "_law_rows", "_law_kind", "_law_rest", "_law_at", "_law_number_here"] ["_law_state", "_law_rows", "_law_kind", "_law_rest", "_law_at", "_law_number_here"] [] ["len"] := kx_of (BB := BB) (by decide +kernel) hs hN hf hm
theorem bd_law_plain {K : PySem.W.Frag} {f : Addr} {fd : FuncData} (F : Fun K "_law_plain" "_law_plain" s_law_plain f fd) : Binds K fd ["_law_state", "_law_rows", "_law_kind", "_law_rest"] [] := F.binds fun _ _ _ _ _ _ us hl => match us, hl with | [_, _, _, _], _ => rfl
/-! _law_put -/
abbrev s_law_put : Stmt := topS 26
abbrev n_law_put : List Str := ["_law_state", "_law_rows", "_law_cell", "_law_fuel", "_law_kind", "_law_rest", "_law_found", "_law_taken", "_law_word"]
theorem sc_law_put : FnScope n_law_put ["_law_state", "_law_rows", "_law_cell", "_law_fuel"] (defScope s_law_put) := ⟨rfl, rfl, rfl, by decide +kernel, rfl, by decide +kernel, by decide +kernel⟩
theorem kx_law_put {X : Cx} (hs : X.env.scope = defScope s_law_put) (hN : X.N = n_law_put) (hf : X.fn = fun _ => true) (hm : ∀ x ∈ BB, X.mg x = none) : Kx X ["_law_state", "_law_rows", "_law_cell", "_law_fuel", "_law_kind", "_law_rest", "_law_found", "_law_taken", "_law_word"] ["_law_state", "_law_rows", "_law_cell", "_law_fuel", "_law_kind", "_law_rest", "_law_found", "_law_taken", "_law_word"] ["_law_plain", "_law_deed", "_law_called", "_law_number"] ["len", "int", "isinstance", "str"] := kx_of (BB := BB) (by decide +kernel) hs hN hf hm
theorem bd_law_put {K : PySem.W.Frag} {f : Addr} {fd : FuncData} (F : Fun K "_law_put" "_law_put" s_law_put f fd) : Binds K fd ["_law_state", "_law_rows", "_law_cell", "_law_fuel"] [] := F.binds fun _ _ _ _ _ _ us hl => match us, hl with | [_, _, _, _], _ => rfl
/-! _law_loop -/
abbrev s_law_loop : Stmt := topS 27
abbrev n_law_loop : List Str := ["_law_rounds", "_law_slot", "_law_is_late", "_law_rows", "_law_more"]
theorem sc_law_loop : FnScope n_law_loop ["_law_rounds", "_law_slot", "_law_is_late"] (defScope s_law_loop) := ⟨rfl, rfl, rfl, by decide +kernel, rfl, by decide +kernel, by decide +kernel⟩
theorem kx_law_loop {X : Cx} (hs : X.env.scope = defScope s_law_loop) (hN : X.N = n_law_loop) (hf : X.fn = fun _ => true) (hm : ∀ x ∈ BB, X.mg x = none) : Kx X ["_law_rounds", "_law_slot", "_law_is_late", "_law_rows", "_law_more"] ["_law_rounds", "_law_slot", "_law_is_late", "_law_rows", "_law_more"] [] [] := kx_of (BB := BB) (by decide +kernel) hs hN hf hm
theorem bd_law_loop {K : PySem.W.Frag} {f : Addr} {fd : FuncData} (F : Fun K "_law_loop" "_law_loop" s_law_loop f fd) : Binds K fd ["_law_rounds", "_law_slot", "_law_is_late"] [] := F.binds fun _ _ _ _ _ _ us hl => match us, hl with | [_, _, _], _ => rfl
/-! _law_placed -/
abbrev s_law_placed : Stmt := topS 28
abbrev n_law_placed : List Str := ["_law_rows", "_law_found", "_law_row"]
theorem sc_law_placed : FnScope n_law_placed ["_law_rows"] (defScope s_law_placed) := ⟨rfl, rfl, rfl, by decide +kernel, rfl, by decide +kernel, by decide +kernel⟩
theorem kx_law_placed {X : Cx} (hs : X.env.scope = defScope s_law_placed) (hN : X.N = n_law_placed) (hf : X.fn = fun _ => true) (hm : ∀ x ∈ BB, X.mg x = none) : Kx X ["_law_rows", "_law_found", "_law_row"] ["_law_rows", "_law_found", "_law_row"] [] ["len"] := kx_of (BB := BB) (by decide +kernel) hs hN hf hm
theorem bd_law_placed {K : PySem.W.Frag} {f : Addr} {fd : FuncData} (F : Fun K "_law_placed" "_law_placed" s_law_placed f fd) : Binds K fd ["_law_rows"] [] := F.binds fun _ _ _ _ _ _ us hl => match us, hl with | [_], _ => rfl
/-! _law_ended -/
abbrev s_law_ended : Stmt := topS 29
abbrev n_law_ended : List Str := ["_law_state", "_law_rows", "_law_many", "_law_rest", "_law_number_here"]
theorem sc_law_ended : FnScope n_law_ended ["_law_state", "_law_rows", "_law_many"] (defScope s_law_ended) := ⟨rfl, rfl, rfl, by decide +kernel, rfl, by decide +kernel, by decide +kernel⟩
theorem kx_law_ended {X : Cx} (hs : X.env.scope = defScope s_law_ended) (hN : X.N = n_law_ended) (hf : X.fn = fun _ => true) (hm : ∀ x ∈ BB, X.mg x = none) : Kx X ["_law_state", "_law_rows", "_law_many", "_law_rest"] ["_law_state", "_law_rows", "_law_many", "_law_rest"] [] ["len"] := kx_of (BB := BB) (by decide +kernel) hs hN hf hm
theorem bd_law_ended {K : PySem.W.Frag} {f : Addr} {fd : FuncData} (F : Fun K "_law_ended" "_law_ended" s_law_ended f fd) : Binds K fd ["_law_state", "_law_rows", "_law_many"] [] := F.binds fun _ _ _ _ _ _ us hl => match us, hl with | [_, _, _], _ => rfl
abbrev kv_law_ended_0 : List Str := ["_law_number_here", "_law_many"]
abbrev kl_law_ended_0 : List Str := ["_law_number_here"]
abbrev kg_law_ended_0 : List Str := []
abbrev kb_law_ended_0 : List Str := []
-- own: [("_law_number_here", 4)]
/-! _law_due -/
abbrev s_law_due : Stmt := topS 30
abbrev n_law_due : List Str := ["_law_state", "_law_many", "_law_word", "_law_fuel", "_law_number_here"]
theorem sc_law_due : FnScope n_law_due ["_law_state", "_law_many", "_law_word", "_law_fuel"] (defScope s_law_due) := ⟨rfl, rfl, rfl, by decide +kernel, rfl, by decide +kernel, by decide +kernel⟩
theorem kx_law_due {X : Cx} (hs : X.env.scope = defScope s_law_due) (hN : X.N = n_law_due) (hf : X.fn = fun _ => true) (hm : ∀ x ∈ BB, X.mg x = none) : Kx X ["_law_state", "_law_many", "_law_word", "_law_fuel", "_law_number_here"] ["_law_state", "_law_many", "_law_word", "_law_fuel", "_law_number_here"] ["_law_deed"] ["isinstance", "str"] := kx_of (BB := BB) (by decide +kernel) hs hN hf hm
theorem bd_law_due {K : PySem.W.Frag} {f : Addr} {fd : FuncData} (F : Fun K "_law_due" "_law_due" s_law_due f fd) : Binds K fd ["_law_state", "_law_many", "_law_word", "_law_fuel"] [] := F.binds fun _ _ _ _ _ _ us hl => match us, hl with | [_, _, _, _], _ => rfl
/-! law -/
abbrev s_law : Stmt := topS 31
abbrev n_law : List Str := ["_law_script", "_law_many", "_law_values", "_law_fuel", "_law_rounds", "_law_is_late", "_law_state", "_law_rows", "_law_word", "_law_k", "_law_due_here", "_law_starts", "_law_handed", "_law_found", "_law_part"]
theorem sc_law : FnScope n_law ["_law_script"] (defScope s_law) := ⟨rfl, rfl, rfl, by decide +kernel, rfl, by decide +kernel, by decide +kernel⟩
theorem kx_law {X : Cx} (hs : X.env.scope = defScope s_law) (hN : X.N = n_law) (hf : X.fn = fun _ => true) (hm : ∀ x ∈ BB, X.mg x = none) : Kx X ["_law_script", "_law_many", "_law_values", "_law_fuel", "_law_rounds", "_law_is_late", "_law_state", "_law_rows", "_law_word", "_law_k", "_law_due_here", "_law_starts", "_law_handed", "_law_found", "_law_part"] ["_law_script", "_law_many", "_law_values", "_law_fuel", "_law_rounds", "_law_is_late", "_law_state", "_law_rows", "_law_word", "_law_k", "_law_due_here", "_law_starts", "_law_handed", "_law_found", "_law_part"] ["_law_cell_at", "_law_loop", "_law_put", "_law_placed", "_law_ended", "_law_due", "run", "Code"] ["range", "min", "len", "list", "dict", "isinstance", "tuple", "str", "bool", "int"] := kx_of (BB := BB) (by decide +kernel) hs hN hf hm
theorem bd_law {K : PySem.W.Frag} {f : Addr} {fd : FuncData} (F : Fun K "law" "law" s_law f fd) : Binds K fd ["_law_script"] [] := F.binds fun _ _ _ _ _ _ us hl => match us, hl with | [_], _ => rfl
abbrev kv_law_0 : List Str := ["_law_k", "_law_script"]
abbrev kl_law_0 : List Str := ["_law_k"]
abbrev kg_law_0 : List Str := ["_law_number", "_law_cell_at"]
abbrev kb_law_0 : List Str := []
-- own: [("_law_k", 9)]
local macro_rules | `(tactic| walk_at "hook") => `(tactic| fail)
/-- side conditions of arithmetic -/
local macro_rules | `(tactic| walk_at "side") => `(tactic| first | decide | omega | assumption | exact cdiv_of (by decide) | exact cmulL (by omega) | exact cmulR (by omega) | exact cpow_of (by decide) | (rw [rngD_len]; omega) | (simp only [tellF, List.length_cons, List.length_nil]; decide))
/-- the walk, as far as it goes by itself -/
local macro_rules | `(tactic| walk_at "gg") => `(tactic| ((repeat (first | refine Step.imp ?_ | with_reducible refine r_joinS ?_ | with_reducible refine r_appS ?_ | with_reducible refine r_methS ?_ | with_reducible refine r_methS0 ?_ | walk_at "hook" | (with_reducible refine divS ?dd ?_; (case dd => walk_at "side")) | (with_reducible refine And.intro ?ss ?_; (case ss => walk_at "side")))); try exact True.intro))
/-- the same, both ways of each open test -/
local macro_rules | `(tactic| walk_at "gs") => `(tactic| (walk_at "gg"; try ((first | refine iteD (fun _ => ?_) (fun _ => ?_) | refine iteND (fun _ => ?_) (fun _ => ?_)) <;> walk_at "gs")))
def exL : List (Ex × Str) := [(.func, "NoSuchFunction"), (.count, "WrongCount"), (.nought, "ByNought"), (.great, "TooGreat"), (.deep, "TooDeep"), (.dry, "Dry")]
def exF : List Ex := [.nought, .great, .deep, .dry]
/-! ### deeds -/
def ocR (cs : Ex → Addr) : Except Ex Int → Oc
  | .ok z => .val (.int z)
  | .error e => .exc (.ref (cs e))
inductive RReck (cs : Ex → Addr) : List Dat → Oc → Prop
  | mk (w : Deed) (a b : Int) (ha : Small a) (hb : Small b) : RReck cs [.str w.str, .int a, .int b] (ocR cs (reckon w a b))
section
variable {P : Program} {w : World} {K : PySem.W.Frag} {mg : Str → Option Value} {base : Heap} {f : Addr} {fd : FuncData}
theorem ocR_lim {cs : Ex → Addr} {z : Int} (h : ¬ (most < z ∨ z < -most)) : ocR cs (lim z) = .val (.int z) := by rw [lim, if_neg h]; rfl
theorem ocR_great {cs : Ex → Addr} {z : Int} (h : most < z ∨ z < -most) : ocR cs (lim z) = .exc (.ref (cs .great)) := by rw [lim, if_pos h]; rfl
theorem ok_reckoned (cs : Ex → Addr) (T : Fun K "reckoned" "reckoned" s_reckoned f fd) (hm : ∀ x ∈ BB, mg x = none) (gM : ∃ t, mg "MOST" = some (.int 1000000000000 t)) (e1 : OwnE K mg "ByNought" (cs .nought)) (e2 : OwnE K mg "TooGreat" (cs .great)) :
    FnR P w K mg base (L2.CX P w) 1 f fd ["word", "one", "other"] (spD K (RReck cs)) := by
  refine defX T sc_reckoned (by decide) (fun as o h => by cases h; rfl) fun X E as o b tk h => ?_
  obtain ⟨rfl, rfl, rfl, rfl, rfl, nn, sc, fn, calm, room, pass, stk, frm⟩ := b
  have kx := kx_reckoned sc nn fn hm
  haveI : Kc X _ _ _ _ := ⟨kx⟩
  haveI : Rc X := ⟨_, room⟩
  haveI : Cc X := ⟨calm⟩
  haveI : Tk X (fun c dd _ H => E c dd H) := ⟨tk⟩
  haveI : GcI X "MOST" 1000000000000 := ⟨gM⟩
  haveI : OwnC X "ByNought" (cs .nought) := ⟨e1⟩
  haveI : OwnC X "TooGreat" (cs .great) := ⟨e2⟩
  cases h with
  | mk w a b ha hb =>
    dsimp only [zipD, n_reckoned]
    refine hss_cons ?_
    have hA := ha
    have hB := hb
    unfold Small most at ha hb
    cases w with
    | below =>
      rw [Deed.str]
      walk_at "gs"
      · rename_i h; exact rt_eq' (by rw [reckon, if_pos h]; rfl)
      · rename_i h; exact rt_eq' (by rw [reckon, if_neg h]; rfl)
    | part =>
      rw [Deed.str]
      walk_at "gg"
      refine iteD (fun h => ?_) (fun h => ?_)
      · walk_at "gg"
        rw [reckon, if_pos h]; rfl
      · walk_at "gg"
        refine ⟨⟨h, by omega⟩, rt_eq' (by rw [reckon, if_neg h]; rfl)⟩
    | sum =>
      rw [Deed.str]
      walk_at "gg"
      refine iteD (fun h => ?_) (fun h => ?_)
      · walk_at "gg"
        exact ocR_great (.inl h)
      · walk_at "gg"
        refine iteD (fun h2 => ?_) (fun h2 => ?_)
        · walk_at "gg"
          exact ocR_great (.inr h2)
        · walk_at "gg"
          exact rt_eq' (ocR_lim (fun z => z.elim h h2))
    | less =>
      rw [Deed.str]
      walk_at "gg"
      refine iteD (fun h => ?_) (fun h => ?_)
      · walk_at "gg"
        exact ocR_great (.inl h)
      · walk_at "gg"
        refine iteD (fun h2 => ?_) (fun h2 => ?_)
        · walk_at "gg"
          exact ocR_great (.inr h2)
        · walk_at "gg"
          exact rt_eq' (ocR_lim (fun z => z.elim h h2))
    | times =>
      rw [Deed.str]
      walk_at "gg"
      refine iteD (fun h => ?_) (fun h => ?_)
      · walk_at "gg"
        exact ocR_great (.inl h)
      · walk_at "gg"
        refine iteD (fun h2 => ?_) (fun h2 => ?_)
        · walk_at "gg"
          exact ocR_great (.inr h2)
        · walk_at "gg"
          exact rt_eq' (ocR_lim (fun z => z.elim h h2))
end
/-! ### need_start -/
section
variable {P : Program} {w : World} {K : PySem.W.Frag} {mg : Str → Option Value} {base : Heap} {f : Addr} {fd : FuncData}
theorem ok_need_start (cs : Ex → Addr) (T : Fun K "need_start" "need_start" s_need_start f fd) (hm : ∀ x ∈ BB, mg x = none) (e1 : OwnE K mg "NoSuchFunction" (cs .func)) (e2 : OwnE K mg "WrongCount" (cs .count)) :
    FnR P w K mg base (L2.CX P w) 1 f fd ["counts", "name", "values"] (spD K (RStart cs)) := by
  refine defX T sc_need_start (by decide) (fun as o h => by cases h; rfl) fun X E as o b tk h => ?_
  obtain ⟨rfl, rfl, rfl, rfl, rfl, nn, sc, fn, calm, room, pass, stk, frm⟩ := b
  have kx := kx_need_start sc nn fn hm
  haveI : Kc X _ _ _ _ := ⟨kx⟩
  haveI : Rc X := ⟨_, room⟩
  haveI : Cc X := ⟨calm⟩
  haveI : Tk X (fun c dd _ H => E c dd H) := ⟨tk⟩
  haveI : OwnC X "NoSuchFunction" (cs .func) := ⟨e1⟩
  haveI : OwnC X "WrongCount" (cs .count) := ⟨e2⟩
  cases h with
  | mk counts nm vs =>
    dsimp only [zipD, n_need_start]
    refine hss_cons ?_
    cases q : lookC counts nm with
    | none =>
      walk_at "gg"
      rw [q]
      refine (iteNone ?_)
      walk_at "gg"
      exact ocN_some (by rw [startE, q])
    | some k =>
      walk_at "gg"
      rw [q]
      refine (iteSome ?_)
      walk_at "gg"
      refine ix_cnt q ?_
      walk_at "gg"
      rw [List.length_map]
      refine iteND (fun c => ?_) (fun c => ?_)
      · walk_at "gg"
        exact ocN_some (by rw [startE, q]; exact if_neg (by omega))
      · walk_at "gg"
        exact ocN_none (by rw [startE, q]; exact if_pos (by omega))
end
/-! ### Machine -/
structure MCls (K : PySem.W.Frag) (C : Addr) : Prop where
  cls : Cls K C
  n1 : NoAttr K C "rows"
  n2 : NoAttr K C "fuel"
  n3 : NoAttr K C "made"
  n4 : NoAttr K C "at"
  n5 : NoAttr K C "stack"
  n6 : NoAttr K C "frames"
theorem r_popS {X : Cx} {W : WX} {o : Expr} {ds : Slots} {M : Mem} {pos apos : Pos} {R : DV → Mem → Prop} {Xp : Value → Mem → Prop} (h : HE X W o ds M (fun x M1 => ObjP M1 x fun p j m => PopP M1 p j m R) Xp)
    (hbase : attributeBase o "pop" X.env (eval o X.env) = eval o X.env := by with_unfolding_all rfl) (hline : (apos.endLine == pos.line) = true := by with_unfolding_all rfl) : HE X W (.Call (.Attribute o "pop" apos) [] [] pos) ds M R Xp := he_pop h hbase hline
section
variable {P : Program} {w : World} {K : PySem.W.Frag} {mg : Str → Option Value} {base : Heap} {f : Addr} {fd : FuncData}
local instance {X : Cx} {W : WX} {a b c : Expr} {ds : Slots} {M : Mem} {pos p1 : Pos} {k : Nat} {R : DV → Mem → Prop} {Xp : Value → Mem → Prop} [n1 : NS a] :
    Step (HE X W (.Tuple [a, .BinOp b .Add c p1] k pos) ds M R Xp) (HE X W a ds M (fun x M1 => HE X W b ds M1 (fun y M2 => HE X W c ds M2 (fun z M3 => CatM M3 y z fun u M4 => ∀ t, R (.m t) ((t, .tup [x, u]) :: M4)) Xp) Xp) Xp) :=
  ⟨fun h => he_tupM (ha_cons (he_imp h fun x M1 g => ha_cons (he_catM (he_imp g fun y M2 g => he_imp g fun z M3 ⟨xs, ys, h1, h2, h3, g⟩ => ⟨xs, ys, h1, h2, h3, fun p => ha_nil ⟨Nat.le_trans (Nat.le_refl 2) (by decide), g p⟩⟩)) (NS.h _ _)) (NS.h _ _))⟩
theorem ok_enter (C : Addr) (cs : Ex → Addr) (rows : Dat) (fuel : Int) (T : Fun K "enter" "Machine.enter" s_Machine_enter f fd) (hm : ∀ x ∈ BB, mg x = none) (tc : MCls K C) (gD : ∃ t, mg "DEEPEST" = some (.int 20 t)) (e1 : OwnE K mg "TooDeep" (cs .deep)) (e2 : OwnE K mg "Dry" (cs .dry)) :
    FnR P w K mg base (L2.CX P w) 1 f fd ["self", "row", "numbers", "room"] (spG K (PEnter C cs rows fuel)) := by
  refine defGX T sc_Machine_enter (by decide) (fun M as rt ex ⟨M0, _, q, dx, sk, fk, cells, s, row, room, vs, L, e, _⟩ => by rw [e]; rfl) fun X E M as rt ex b tk hp => ?_
  obtain ⟨rfl, rfl, rfl, rfl, rfl, nn, sc, fn, calm, room', pass, stk, frm⟩ := b
  obtain ⟨M0, part, q, dx, sk, fk, cells, s, row, room, vs, L, rfl, rfl, ok, hvs, hroom, hvl, hp⟩ := hp
  refine hss_part part ?_
  refine hss_nd fun nd => ?_
  have kx := kx_Machine_enter sc nn fn hm
  haveI : Kc X _ _ _ _ := ⟨kx⟩
  haveI : Rc X := ⟨_, room'⟩
  haveI : Cc X := ⟨calm⟩
  haveI : PassC X := ⟨pass⟩
  haveI : Tk X (fun c dd _ H => E c dd H) := ⟨tk⟩
  haveI : ClsC X C := ⟨tc.cls⟩
  haveI : NoC X C "rows" := ⟨tc.n1⟩
  haveI : NoC X C "fuel" := ⟨tc.n2⟩
  haveI : NoC X C "made" := ⟨tc.n3⟩
  haveI : NoC X C "at" := ⟨tc.n4⟩
  haveI : NoC X C "stack" := ⟨tc.n5⟩
  haveI : NoC X C "frames" := ⟨tc.n6⟩
  haveI : GcI X "DEEPEST" 20 := ⟨gD⟩
  haveI : OwnC X "TooDeep" (cs .deep) := ⟨e1⟩
  haveI : OwnC X "Dry" (cs .dry) := ⟨e2⟩
  dsimp only [zipV, n_Machine_enter]
  refine hss_cons ?_
  have hlen := ok.len
  walk_at "gg"
  have fl : (framesV cells).length = s.fr.length := by simp [hlen]
  rw [fl]
  by_cases h20 : s.fr.length = 20
  · refine iteT (by omega) ?_
    rw [enterM, if_pos h20] at hp
    walk_at "gg"
    exact ⟨_, .of_sub (.cons₂ _ (.cons _ (.cons _ (List.sublist_append_right _ _)))), hp _ _ _⟩
  refine iteF (by omega) ?_
  rw [enterM, if_neg h20] at hp
  walk_at "gg"
  refine iteD (fun hd => ?_) (fun hd => ?_)
  · rw [if_pos hd] at hp
    walk_at "gg"
    exact ⟨_, .of_sub (.cons₂ _ (.cons _ (.cons _ (List.sublist_append_right _ _)))), hp _ _ _⟩
  rw [if_neg hd] at hp
  walk_at "gg"
  have hz : ((room : Int) - ((vs.map Dat.int).length : Int)).toNat = room - vs.length := by rw [List.length_map]; omega
  rw [hz]
  refine ⟨⟨by rw [List.length_map]; omega, by rw [List.length_map]; omega, by rw [List.length_singleton, sizeLine_eq]; omega⟩, vs.map .int, _, .dat, .dat, ?_, fun p => ?_⟩
  · rw [List.length_map, List.length_flatten, List.map_replicate, List.sum_replicate_nat, sizeLine_eq]
    simp only [List.length_singleton]
    omega
  intro t
  have hfl : ((vs.map Dat.int ++ (List.replicate (room - vs.length) [Dat.int 0]).flatten).map DV.d) = intsV (vs ++ List.replicate (room - vs.length) 0) := by
    rw [List.flatten_replicate_singleton]; simp [List.map_replicate]
  rw [hfl]
  walk_at "gg"
  refine ⟨by rw [fl, sizeLine_eq]; have := ok.few; omega, ?_⟩
  walk_at "gg"
  have few := ok.few
  have hq := hp sk fk ((t, p) :: cells) ⟨by simp [hlen], ok.st, fun f hf v hv => by
    rcases List.mem_cons.mp hf with rfl | hf
    · rcases List.mem_append.mp hv with hv | hv
      · exact hvs v hv
      · rw [(List.mem_replicate.mp hv).2]; exact small_zero
    · exact ok.fr f hf v hv, by simp only [List.length_cons]; omega⟩
  refine .perm ?_ hq
  have z := (List.perm_append_comm (l₁ := [(t, MO.tup [DV.d (Dat.int s.at_), DV.m p]), (p, MO.lst (intsV (vs ++ List.replicate (room - vs.length) 0)))]) (l₂ := [(q, MO.ins C dx (machF rows fuel (s.made + 1) row sk fk)), (sk, MO.lst (intsV s.st.reverse)), (fk, MO.lst (framesV cells ++ [DV.m t]))])).append_right (cellsM cells s.fr ++ L)
  have e : framesV ((t, p) :: cells) = framesV cells ++ [DV.m t] := by simp
  rw [machM, e]
  exact z
def SlM (M : Mem) (x : DV) (i j : Option Int) (R : DV → Mem → Prop) : Prop := ∃ xs, LOf M x xs ∧ ∀ p, R (.m p) ((p, .lst ((cutD xs i j).map .d)) :: M)
local instance (priority := high) {X : Cx} {W : WX} {o a : Expr} {lo hi : Option Expr} {ds : Slots} {M : Mem} {pos p' p2 p3 : Pos} {f : Str} {pn : Slots → Mem → Prop} {pr : DV → Mem → Prop} {pb pc : Slots → Mem → Prop} {px : Value → Slots → Mem → Prop} :
    Step (HS X W (.Assign [.Attribute o f p'] (.Subscript a (.Slice lo hi none p2) p3) pos) ds M ⟨pn, pr, pb, pc, px⟩)
      (HE X W a ds M (fun x M1 => HO' X W lo ds M1 (fun i M2 => HO' X W hi ds M2 (fun j M3 => SlM M3 x i j fun y M4 => HE X W o ds M4 (fun x M2 => ObjP M2 x fun p i m => InsP X m fun C dx fs => PutP X C f fs y fun gs => SetP M2 i (p, .ins C dx gs) fun M3 => pn ds M3) (fun cls M1 => px cls ds M1)) (fun cls M1 => px cls ds M1)) (fun cls M1 => px cls ds M1)) (fun cls M1 => px cls ds M1)) :=
  ⟨fun h => hs_fld (he_slM h) (NC.h _ _ _)⟩
theorem StepP.imp {C : Addr} {cs : Ex → Addr} {rows : Dat} {fuel : Int} {q dx : Addr} {L : Mem} {rt rt' : DV → Mem → Prop} {ex ex' : Value → Mem → Prop} {made : Nat} {r : Except Ex MS} (h1 : ∀ M, rt (.d .non) M → rt' (.d .non) M) (h2 : ∀ c M, ex c M → ex' c M) (h : StepP C cs rows fuel q dx L rt ex made r) : StepP C cs rows fuel q dx L rt' ex' made r := by
  cases r with
  | ok s => exact fun sk fk cells ok => h1 _ (h sk fk cells ok)
  | error e => exact fun a sk fk => h2 _ _ (h a sk fk)
theorem sldM_from {M : Mem} {p : Addr} {j : Nat} {xs : List Dat} {i : Int} {k : Dat → Prop} (hM : M[j]? = some (p, .lst (xs.map .d))) (h0 : 0 ≤ i) (h : k (.lst (xs.drop i.toNat))) : SldP M (.m p) (some i) none k := by
  refine ⟨.lst (cutD xs (some i) none), .lst (.mu hM), ?_⟩
  have e := cutD_from xs i.toNat
  rw [Int.toNat_of_nonneg h0] at e
  rw [e]
  exact h
theorem slM_to {M : Mem} {p : Addr} {j : Nat} {xs : List Dat} {i : Int} {R : DV → Mem → Prop} (hM : M[j]? = some (p, .lst (xs.map .d))) (h0 : 0 ≤ i) (h : ∀ q, R (.m q) ((q, .lst ((xs.take i.toNat).map .d)) :: M)) : SlM M (.m p) none (some i) R := by
  refine ⟨xs, .mu hM, fun q => ?_⟩
  have e := cutD_to xs i.toNat
  rw [Int.toNat_of_nonneg h0] at e
  rw [e]
  exact h q
theorem ok_call (C : Addr) (cs : Ex → Addr) (rows : Dat) (fuel : Int) (T : Fun K "call" "Machine.call" s_Machine_call f fd) (hm : ∀ x ∈ BB, mg x = none) (tc : MCls K C) (DE : MDef P w K mg base (L2.CX P w) 1 C "enter" ["self", "row", "numbers", "room"] (spG K (PEnter C cs rows fuel))) :
    FnR P w K mg base (L2.CX P w) 2 f fd ["self", "row"] (spG K (PCallR C cs rows fuel)) := by
  refine defGX T sc_Machine_call (by decide) (fun M as rt ex ⟨M0, _, q, dx, sk, fk, cells, s, r, c, room, L, e, _⟩ => by rw [e]; rfl) fun X E M as rt ex b tk hp => ?_
  obtain ⟨rfl, rfl, rfl, rfl, rfl, nn, sc, fn, calm, room', pass, stk, frm⟩ := b
  obtain ⟨M0, part, q, dx, sk, fk, cells, s, r, c, room, L, rfl, rfl, ok, hroom, hst, hc, hp⟩ := hp
  refine hss_part part ?_
  have kx := kx_Machine_call sc nn fn hm
  haveI : Kc X _ _ _ _ := ⟨kx⟩
  haveI : Rc X := ⟨_, room'⟩
  haveI : Cc X := ⟨calm⟩
  haveI : PassC X := ⟨pass⟩
  haveI : Tk X (fun c dd _ H => E c dd H) := ⟨tk⟩
  haveI : ClsC X C := ⟨tc.cls⟩
  haveI : NoC X C "stack" := ⟨tc.n5⟩
  haveI : MethN X (fun c dd _ H => E c dd H) "enter" C (PEnter C cs rows fuel) := ⟨⟨_, _, _, DE, room', letsX tk⟩, tc.cls⟩
  dsimp only [zipV, n_Machine_call]
  rw [Row.dat]
  refine hss_cons ?_
  walk_at "gg"
  have hl : ((intsV s.st.reverse).length : Int) = s.st.length := by simp
  rw [hl]
  have h0 : 0 ≤ (s.st.length : Int) - c := by omega
  have ht : ((s.st.length : Int) - c).toNat = s.st.length - c := by omega
  refine sldM_from (j := 1) rfl h0 ?_
  rw [ht, ← List.map_drop, ← List.reverse_take]
  walk_at "gg"
  refine slM_to (j := 1) rfl h0 fun sk' => ?_
  rw [ht, ← List.map_take, ← List.reverse_drop]
  walk_at "gg"
  refine ⟨machM C dx q sk' fk rows fuel cells ⟨s.at_, s.st.drop c, s.fr, s.made⟩ L, (Part.of_perm (List.Perm.swap _ _ _)).trans (.of_sub (.cons₂ _ (.cons₂ _ (.cons _ (List.Sublist.refl _))))), q, dx, sk', fk, cells, ⟨s.at_, s.st.drop c, s.fr, s.made⟩, r, room, (s.st.take c).reverse, L, rfl, rfl,
    ⟨ok.len, fun v hv => ok.st v (List.mem_of_mem_drop hv), ok.fr, ok.few⟩, fun v hv => ok.st v (List.mem_of_mem_take (List.mem_reverse.mp hv)), hroom, by rw [List.length_reverse, List.length_take]; omega, hp.imp (fun M h => ?_) (fun c M h => .all h)⟩
  walk_at "gg"
  exact .all h
theorem atI_last {α : Type} (xs : List α) (a : α) : atI (xs ++ [a]) (-1) = some a := by
  rw [show (-1 : Int) = -((1 : Nat) : Int) by rfl, atI_end _ 1 (by decide) (by simp)]; simp
theorem ix_mu {M : Mem} {p : Addr} {j : Nat} {xs : List DV} {i : Int} {d : DV} {k : DV → Prop} (hM : M[j]? = some (p, .lst xs)) (h : atI xs i = some d) (q : k d) : IxA M (.m p) (.d (.int i)) k := .inl ⟨_, _, rfl, .mu hM h, q⟩
theorem ix_mt {M : Mem} {p : Addr} {j : Nat} {xs : List DV} {i : Int} {d : DV} {k : DV → Prop} (hM : M[j]? = some (p, .tup xs)) (h : atI xs i = some d) (q : k d) : IxA M (.m p) (.d (.int i)) k := .inl ⟨_, _, rfl, .mt hM h, q⟩
instance {M : Mem} {p : Addr} {j : Nat} {v : Int} {st : List Int} {k : DV → Mem → Prop} : Step (PopP M p j (.lst (intsV (v :: st).reverse)) k) (SetP M j (p, .lst (intsV st.reverse)) fun M' => k (.d (.int v)) M') := ⟨fun h => ⟨intsV st.reverse, .d (.int v), by simp, h⟩⟩
instance {M : Mem} {p : Addr} {j : Nat} {xs : List DV} {y : DV} {k : DV → Mem → Prop} : Step (PopP M p j (.lst (xs ++ [y])) k) (SetP M j (p, .lst xs) fun M' => k y M') := ⟨fun h => ⟨xs, y, rfl, h⟩⟩
local macro_rules | `(tactic| walk_at "hook") => `(tactic| with_reducible refine r_popS ?_)
theorem ok_work (C : Addr) (cs : Ex → Addr) (rows : List Row) (fuel : Int) (T : Fun K "work" "Machine.work" s_Machine_work f fd) (hm : ∀ x ∈ BB, mg x = none) (tc : MCls K C) (DC : MDef P w K mg base (L2.CX P w) 2 C "call" ["self", "row"] (spG K (PCallR C cs (rowsD rows) fuel)))
    (DR : Def P w K mg base (L2.CX P w) 1 "reckoned" ["word", "one", "other"] (spD K (RReck cs))) :
    FnR P w K mg base (L2.CX P w) 3 f fd ["self"] (spG K (PStep C cs rows fuel)) := by
  refine defGX T sc_Machine_work (by decide) (fun M as rt ex ⟨M0, _, q, dx, sk, fk, cells, s, L, r, e, _⟩ => by rw [e]; rfl) fun X E M as rt ex b tk hp => ?_
  obtain ⟨rfl, rfl, rfl, rfl, rfl, nn, sc, fn, calm, room', pass, stk, frm⟩ := b
  obtain ⟨M0, part, q, dx, sk, fk, cells, s, L, r, rfl, rfl, ok, hrows, hst, hstep, hp⟩ := hp
  refine hss_part part ?_
  have kx := kx_Machine_work sc nn fn hm
  haveI : Kc X _ _ _ _ := ⟨kx⟩
  haveI : Rc X := ⟨_, room'⟩
  haveI : Cc X := ⟨calm⟩
  haveI : PassC X := ⟨pass⟩
  haveI : Tk X (fun c dd _ H => E c dd H) := ⟨tk⟩
  haveI : ClsC X C := ⟨tc.cls⟩
  haveI : NoC X C "rows" := ⟨tc.n1⟩
  haveI : NoC X C "fuel" := ⟨tc.n2⟩
  haveI : NoC X C "made" := ⟨tc.n3⟩
  haveI : NoC X C "at" := ⟨tc.n4⟩
  haveI : NoC X C "stack" := ⟨tc.n5⟩
  haveI : NoC X C "frames" := ⟨tc.n6⟩
  haveI : CallC X (fun c dd _ H => E c dd H) "reckoned" (RReck cs) := callC DR room' (letsX tk) kx (by repeat constructor) (by omega)
  haveI : MethN X (fun c dd _ H => E c dd H) "call" C (PCallR C cs (rowsD rows) fuel) := ⟨⟨_, _, _, DC, room', letsX tk⟩, tc.cls⟩
  dsimp only [zipV, n_Machine_work]
  refine hss_cons ?_
  obtain ⟨at_, st, fr, made⟩ := s
  obtain ⟨hlen, hsm, hfs, hfew⟩ := ok
  simp only at hlen hsm hfs hfew hst
  cases fr with
  | nil => cases hstep
  | cons f0 fr =>
    obtain ⟨ret, sl⟩ := f0
    cases cells with
    | nil => simp at hlen
    | cons c0 cells =>
      obtain ⟨t, l⟩ := c0
      unfold mstep at hstep
      simp only at hstep
      cases hr : rows[at_]? with
      | none => rw [hr] at hstep; cases hstep
      | some r0 =>
        rw [hr] at hstep
        simp only at hstep
        have hM : machM C dx q sk fk (rowsD rows) fuel ((t, l) :: cells) ⟨at_, st, (ret, sl) :: fr, made⟩ L = (q, .ins C dx (machF (rowsD rows) fuel made at_ sk fk)) :: (sk, .lst (intsV st.reverse)) :: (fk, .lst (framesV cells ++ [.m t])) :: (t, .tup [.d (.int ret), .m l]) :: (l, .lst (intsV sl)) :: (cellsM cells fr ++ L) := by
          simp only [machM, framesV, List.map_cons, List.reverse_cons, cellsM, List.cons_append]
        rw [hM]
        have done : ∀ (s' : MS) (sk' fk' : Addr) (cells' : List (Addr × Addr)) (M' : Mem), some r = some (.ok s') → MsOk cells' s' → M' = machM C dx q sk' fk' (rowsD rows) fuel cells' s' L → Fr M' (rt (.d .non)) := fun s' sk' fk' cells' M' e o em => by
          cases e
          rw [em]
          exact .all (hp sk' fk' cells' o)
        have big : (intsV st.reverse).length < sizeLine := by simp only [List.length_map, List.length_reverse, sizeLine_eq]; omega
        have hsl : ∀ v ∈ sl, Small v := hfs (ret, sl) (by simp)
        have hfr : ∀ f ∈ fr, ∀ v ∈ f.2, Small v := fun f hf => hfs f (by simp [hf])
        have fr2 : ∀ sl' : List Int, (∀ v ∈ sl', Small v) → ∀ f ∈ (ret, sl') :: fr, ∀ v ∈ f.2, Small v := fun sl' h f hf => by
          rcases List.mem_cons.mp hf with rfl | hf
          · exact h
          · exact hfr f hf
        walk_at "gg"
        refine .inl ⟨_, _, rfl, .lst (atI_map Row.dat (atI_nat hr)), ?_⟩
        walk_at "gg"
        refine ix_mu (j := 2) rfl (atI_last _ _) ?_
        walk_at "gg"
        refine ix_mt (j := 3) rfl (d := .m l) (by rfl) ?_
        walk_at "gg"
        cases r0 with
        | push i =>
          have hi : Small i := hrows i (List.mem_of_getElem? hr)
          unfold mrow at hstep
          simp only at hstep
          split at hstep
          · rw [Row.dat]
            walk_at "gg"
            refine done _ sk fk ((t, l) :: cells) _ hstep.symm ⟨hlen, fun v hv => ?_, hfs, hfew⟩ ?_
            · rcases List.mem_cons.mp hv with rfl | hv
              · exact hi
              · exact hsm v hv
            · simp [machM, framesV, cellsM]
          · cases hstep
        | load k =>
          unfold mrow at hstep
          simp only at hstep
          split at hstep
          · rename_i v hv
            split at hstep
            · rw [Row.dat]
              walk_at "gg"
              refine ix_mu (j := 4) rfl (d := .d (.int v)) (atI_nat (by rw [List.getElem?_map, List.getElem?_map, hv]; rfl)) ?_
              walk_at "gg"
              refine done _ sk fk ((t, l) :: cells) _ hstep.symm ⟨hlen, fun u hu => ?_, hfs, hfew⟩ ?_
              · rcases List.mem_cons.mp hu with rfl | hu
                · exact hsl _ (List.mem_of_getElem? hv)
                · exact hsm u hu
              · simp [machM, framesV, cellsM]
            · cases hstep
          · cases hstep
        | keep k =>
          unfold mrow at hstep
          simp only at hstep
          cases st with
          | nil => cases hstep
          | cons v st =>
            simp only at hstep
            split at hstep
            · rename_i hk
              rw [Row.dat]
              walk_at "gg"
              refine .inl ⟨l, 4, intsV sl, k, k, rfl, rfl, rfl, ?_, ?_⟩
              · unfold ixN
                rw [if_pos (by omega), if_pos (by simp only [List.length_map]; omega)]
                simp
              simp only [List.set_cons_succ, List.set_cons_zero]
              walk_at "gg"
              refine done _ sk fk ((t, l) :: cells) _ hstep.symm ⟨hlen, fun u hu => hsm u (by simp [hu]), fr2 _ (fun u hu => ?_), hfew⟩ ?_
              · rcases List.mem_or_eq_of_mem_set hu with hu | rfl
                · exact hsl u hu
                · exact hsm _ (by simp)
              · simp [machM, framesV, cellsM, List.map_set]
            · cases hstep
        | dod wd =>
          unfold mrow at hstep
          simp only at hstep
          cases st with
          | nil => cases hstep
          | cons b' st =>
            cases st with
            | nil => cases hstep
            | cons a' st =>
              simp only at hstep
              have sb := hsm b' (by simp)
              have sa := hsm a' (by simp)
              have big2 : (intsV st.reverse).length < sizeLine := by simp only [List.length_map, List.length_reverse, sizeLine_eq]; simp only [List.length_cons] at hst; omega
              rw [Row.dat]
              walk_at "gg"
              refine relP_of (RReck.mk wd a' b' sa sb) ?_
              cases hq : reckon wd a' b' with
              | ok z =>
                rw [hq] at hstep
                rw [ocR]
                walk_at "gg"
                refine done _ sk fk ((t, l) :: cells) _ hstep.symm ⟨hlen, fun u hu => ?_, hfs, hfew⟩ ?_
                · rcases List.mem_cons.mp hu with rfl | hu
                  · exact small_reckon sa hq
                  · exact hsm u (by simp [hu])
                · simp [machM, framesV, cellsM]
              | error e =>
                rw [hq] at hstep
                cases hstep
                rw [ocR]
                walk_at "gg"
                refine ⟨_, .of_sub (.cons₂ _ (.cons _ (.cons _ (.cons _ (.cons _ (List.sublist_append_right _ _)))))), hp _ _ _⟩
        | «unless» k =>
          unfold mrow at hstep
          simp only at hstep
          cases st with
          | nil => cases hstep
          | cons v st =>
            simp only at hstep
            rw [Row.dat]
            walk_at "gg"
            refine iteD (fun h0 => ?_) (fun h0 => ?_)
            · rw [if_pos h0] at hstep
              walk_at "gg"
              refine done _ sk fk ((t, l) :: cells) _ hstep.symm ⟨hlen, fun u hu => hsm u (by simp [hu]), hfs, hfew⟩ ?_
              simp [machM, framesV, cellsM]
            · rw [if_neg h0] at hstep
              walk_at "gg"
              refine done _ sk fk ((t, l) :: cells) _ hstep.symm ⟨hlen, fun u hu => hsm u (by simp [hu]), hfs, hfew⟩ ?_
              simp [machM, framesV, cellsM]
        | skip k =>
          unfold mrow at hstep
          simp only at hstep
          rw [Row.dat]
          walk_at "gg"
          refine done _ sk fk ((t, l) :: cells) _ hstep.symm ⟨hlen, hsm, hfs, hfew⟩ ?_
          simp [machM, framesV, cellsM]
        | call a b c =>
          unfold mrow at hstep
          simp only at hstep
          split at hstep
          · rename_i hc
            have hd : (Row.call a b c).dat = .tup [.str "call", .int a, .int b, .int c] := rfl
            rw [hd]
            walk_at "gg"
            cases hstep
            refine ⟨_, .refl _, q, dx, sk, fk, (t, l) :: cells, ⟨at_ + 1, st, (ret, sl) :: fr, made⟩, a, b, c, L, rfl, by simp [machM, framesV, cellsM], ⟨hlen, hsm, hfs, hfew⟩, hc.2, by show st.length ≤ 1000000; omega, hc.1, hp.imp (fun M h => ?_) (fun c M h => .all h)⟩
            walk_at "gg"
            exact .all h
          · cases hstep
        | back =>
          unfold mrow at hstep
          simp only at hstep
          rw [Row.dat]
          walk_at "gg"
          refine ix_mt (j := 3) rfl (d := .d (.int ret)) (by rfl) ?_
          walk_at "gg"
          refine .part (.of_sub (.cons₂ _ (.cons₂ _ (.cons₂ _ (.cons _ (.cons _ (List.Sublist.refl _))))))) ?_
          refine done _ sk fk cells _ hstep.symm ⟨by simpa using hlen, hsm, hfr, by show fr.length ≤ 20; simp only [List.length_cons] at hfew; omega⟩ ?_
          simp [machM, framesV, cellsM]
end
/-! ### Machine.__init__, went -/
section
variable {P : Program} {w : World} {K : PySem.W.Frag} {mg : Str → Option Value} {base : Heap} {f : Addr} {fd : FuncData}
local instance (priority := high) {X : Cx} {W : WX} {o : Expr} {ds : Slots} {M : Mem} {pos p' p2 : Pos} {fl : Str} {pn : Slots → Mem → Prop} {pr : DV → Mem → Prop} {pb pc : Slots → Mem → Prop} {px : Value → Slots → Mem → Prop} :
    Step (HS X W (.Assign [.Attribute o fl p'] (.List [] p2) pos) ds M ⟨pn, pr, pb, pc, px⟩)
      (∀ z, HE X W o ds ((z, .lst []) :: M) (fun x M2 => ObjP M2 x fun p i m => InsP X m fun C dx fs => PutP X C fl fs (.m z) fun gs => SetP M2 i (p, .ins C dx gs) fun M3 => pn ds M3) (fun cls M1 => px cls ds M1)) :=
  ⟨fun h => hs_fld (he_lstM (ha_nil ⟨by decide, h⟩)) (NC.h _ _ _)⟩
theorem ok_minit (C : Addr) (T : Fun K "__init__" "Machine.__init__" s_Machine_init f fd) (hm : ∀ x ∈ BB, mg x = none) (tc : MCls K C) : FnR P w K mg base CX0 1 f fd ["self", "rows", "fuel"] (spG K (PInitM C)) := by
  refine defG0 T sc_Machine_init (by decide) (fun M as rt ex ⟨q, dx, L, rows, fuel, e, _⟩ => by rw [e]; rfl) fun X E M as rt ex b hp => ?_
  obtain ⟨rfl, rfl, rfl, rfl, rfl, nn, sc, fn, calm, room, pass, stk, frm⟩ := b
  obtain ⟨q, dx, L, rows, fuel, rfl, rfl, hp⟩ := hp
  have kx := kx_Machine_init sc nn fn hm
  haveI : Kc X _ _ _ _ := ⟨kx⟩
  haveI : Rc X := ⟨_, room⟩
  haveI : Cc X := ⟨calm⟩
  haveI : ClsC X C := ⟨tc.cls⟩
  haveI : NoC X C "rows" := ⟨tc.n1⟩
  haveI : NoC X C "fuel" := ⟨tc.n2⟩
  haveI : NoC X C "made" := ⟨tc.n3⟩
  haveI : NoC X C "at" := ⟨tc.n4⟩
  haveI : NoC X C "stack" := ⟨tc.n5⟩
  haveI : NoC X C "frames" := ⟨tc.n6⟩
  dsimp only [zipV, n_Machine_init]
  refine hss_cons ?_
  walk_at "gg"
  intro sk
  walk_at "gg"
  intro fk
  walk_at "gg"
  refine .perm ?_ (hp sk fk)
  exact (List.perm_append_comm (l₁ := [(fk, MO.lst []), (sk, MO.lst [])]) (l₂ := [(q, MO.ins C dx (machF rows fuel 0 0 sk fk))])).append_right L |>.trans (List.Perm.cons _ (List.Perm.swap _ _ _))
theorem ok_went (C : Addr) (cs : Ex → Addr) (T : Fun K "went" "went" s_went f fd) (hm : ∀ x ∈ BB, mg x = none) (tc : MCls K C) (DE : ∀ rows fuel, MDef P w K mg base (L2.CX P w) 1 C "enter" ["self", "row", "numbers", "room"] (spG K (PEnter C cs rows fuel)))
    (DW : ∀ rows fuel, MDef P w K mg base (L2.CX P w) 3 C "work" ["self"] (spG K (PStep C cs rows fuel))) : FnR P w K mg base (L2.CX P w) 4 f fd ["machine", "start", "values"] (spG K (PWent C cs)) := by
  refine defGX T sc_went (by decide) (fun M as rt ex ⟨M0, _, q, dx, sk, fk, rows, fuel, a, c, room, more, vs, L, r, e, _⟩ => by rw [e]; rfl) fun X E M as rt ex b tk hp => ?_
  obtain ⟨rfl, rfl, rfl, rfl, rfl, nn, sc, fn, calm, room', pass, stk, frm⟩ := b
  obtain ⟨M0, part, q, dx, sk, fk, rows, fuel, a, c, room, more, vs, L, r, rfl, rfl, hrows, hvs, hroom, hvl, hrun, hp⟩ := hp
  refine hss_part part ?_
  have kx := kx_went sc nn fn hm
  haveI : Kc X _ _ _ _ := ⟨kx⟩
  haveI : Rc X := ⟨_, room'⟩
  haveI : Cc X := ⟨calm⟩
  haveI : PassC X := ⟨pass⟩
  haveI : Tk X (fun c dd _ H => E c dd H) := ⟨tk⟩
  haveI : ClsC X C := ⟨tc.cls⟩
  haveI : NoC X C "stack" := ⟨tc.n5⟩
  haveI : NoC X C "frames" := ⟨tc.n6⟩
  haveI : MethN X (fun c dd _ H => E c dd H) "enter" C (PEnter C cs (rowsD rows) fuel) := ⟨⟨_, _, _, DE _ _, room'.mono (by decide), letsX tk⟩, tc.cls⟩
  haveI : MethN X (fun c dd _ H => E c dd H) "work" C (PStep C cs rows fuel) := ⟨⟨_, _, _, DW _ _, room', letsX tk⟩, tc.cls⟩
  dsimp only [zipV, n_went]
  refine hss_cons ?_
  walk_at "gg"
  refine ⟨_, .refl _, q, dx, sk, fk, [], ⟨0, [], [], 0⟩, a, room, vs, L, rfl, rfl, ⟨rfl, fun v hv => (by cases hv), fun v hv => (by cases hv), by decide⟩, hvs, hroom, hvl, ?_⟩
  rcases hrun with ⟨h0, rfl⟩ | ⟨h0, n, hrun⟩
  · rw [enterM, if_neg (by decide), if_pos (by exact h0)]
    intro at_ sk' fk'
    exact .all (hp at_ sk' fk')
  · rw [enterM, if_neg (by decide), if_neg (by exact h0)]
    intro sk' fk' cells ok
    walk_at "gg"
    refine hs_while pass (fun k ds' M' => ds' = ([("machine", .m q), ("start", .d (.tup (.int a :: .int c :: .int room :: more))), ("values", .d (.lst (vs.map .int)))] : Slots) ∧ ∃ s sk fk cells, MsOk cells s ∧ s.st.length ≤ 300000 ∧ Ends rows fuel k s r ∧ M' = machM C dx q sk fk (rowsD rows) fuel cells s L) n ⟨rfl, _, sk', fk', cells, ok, Nat.zero_le _, hrun, rfl⟩ ?_
    rintro k ds' M' ⟨rfl, s, sk, fk, cells, ok, few, he, rfl⟩ nm
    have fl : (framesV cells).length = s.fr.length := by simp [ok.len]
    walk_at "gg"
    rw [fl]
    cases he with
    | @done _ v st h1 h2 =>
      refine iteF (by rw [h1]; decide) ?_
      walk_at "gg"
      refine ix_mu (j := 1) rfl (d := .d (.int v)) (by rw [h2, List.reverse_cons]; unfold intsV; rw [List.map_append, List.map_append]; exact atI_last _ _) ?_
      walk_at "gg"
      exact ⟨_, .of_sub (.cons₂ _ (.cons _ (.cons _ (List.sublist_append_right _ _)))), hp _ _ _⟩
    | @step k _ s' _ h1 h2 =>
      have hf : s.fr ≠ [] := fun z => by unfold mstep at h1; rw [z] at h1; cases h1
      have hl := List.length_pos_iff.mpr hf
      refine iteT (by omega) ?_
      walk_at "gg"
      refine ⟨_, .refl _, q, dx, sk, fk, cells, s, L, _, rfl, rfl, ok, hrows, few, h1, fun sk2 fk2 cells2 ok2 => ?_⟩
      walk_at "gg"
      exact ⟨k, Nat.lt_succ_self k, rfl, s', sk2, fk2, cells2, ok2, mstep_few h1 few, h2, rfl⟩
    | @err k _ e h1 =>
      have hf : s.fr ≠ [] := fun z => by unfold mstep at h1; rw [z] at h1; cases h1
      have hl := List.length_pos_iff.mpr hf
      refine iteT (by omega) ?_
      walk_at "gg"
      refine ⟨_, .refl _, q, dx, sk, fk, cells, s, L, _, rfl, rfl, ok, hrows, few, h1, fun at_ sk2 fk2 => ?_⟩
      exact .all (hp _ _ _)
/-! ### Code.__init__, run -/
structure CCls (K : PySem.W.Frag) (C : Addr) : Prop where
  cls : Cls K C
  n1 : NoAttr K C "rows"
  n2 : NoAttr K C "starts"
theorem ok_cinit (C : Addr) (T : Fun K "__init__" "Code.__init__" s_Code_init f fd) (hm : ∀ x ∈ BB, mg x = none) (tc : CCls K C) : FnR P w K mg base CX0 1 f fd ["self", "rows", "starts"] (spG K (PInitC C)) := by
  refine defG0 T sc_Code_init (by decide) (fun M as rt ex ⟨q, dx, L, rows, starts, e, _⟩ => by rw [e]; rfl) fun X E M as rt ex b hp => ?_
  obtain ⟨rfl, rfl, rfl, rfl, rfl, nn, sc, fn, calm, room, pass, stk, frm⟩ := b
  obtain ⟨q, dx, L, rows, starts, rfl, rfl, hp⟩ := hp
  have kx := kx_Code_init sc nn fn hm
  haveI : Kc X _ _ _ _ := ⟨kx⟩
  haveI : Rc X := ⟨_, room⟩
  haveI : Cc X := ⟨calm⟩
  haveI : ClsC X C := ⟨tc.cls⟩
  haveI : NoC X C "rows" := ⟨tc.n1⟩
  haveI : NoC X C "starts" := ⟨tc.n2⟩
  dsimp only [zipV, n_Code_init]
  refine hss_cons ?_
  walk_at "gg"
  exact .all hp
theorem ok_run (C CC : Addr) (cs : Ex → Addr) (T : Fun K "run" "run" s_run f fd) (hm : ∀ x ∈ BB, mg x = none) (tc : MCls K C) (tcc : CCls K CC) (e1 : OwnE K mg "ByNought" (cs .nought)) (e2 : OwnE K mg "TooGreat" (cs .great)) (e3 : OwnE K mg "TooDeep" (cs .deep)) (e4 : OwnE K mg "Dry" (cs .dry))
    (hsub : ∀ a b, Goes a → Goes b → PySem.W.subIn K (.ref (cs a)) (.ref (cs b)) = some (decide (a = b))) (D2 : Def P w K mg base (L2.CX P w) 1 "need_start" ["counts", "name", "values"] (spD K (RStart cs)))
    (DI : KDef P w K mg base CX0 1 "Machine" C ["self", "rows", "fuel"] (spG K (PInitM C))) (DW : Def P w K mg base (L2.CX P w) 4 "went" ["machine", "start", "values"] (spG K (PWent C cs))) :
    FnR P w K mg base (L2.CX P w) 5 f fd ["code", "name", "values", "fuel"] (spG K (PRun CC cs)) := by
  refine defGX T sc_run (by decide) (fun M as rt ex ⟨c, i, dx, rows, gs, nm, vs, fuel, e, _⟩ => by rw [e]; rfl) fun X E M as rt ex b tk hp => ?_
  obtain ⟨rfl, rfl, rfl, rfl, rfl, nn, sc, fn, calm, room', pass, stk, frm⟩ := b
  obtain ⟨c, i, dx, rows, gs, nm, vs, fuel, rfl, hM, hrows, hvs, hnd, hgl, hvl, hp⟩ := hp
  have kx := kx_run sc nn fn hm
  haveI : Kc X _ _ _ _ := ⟨kx⟩
  haveI : Rc X := ⟨_, room'⟩
  haveI : Cc X := ⟨calm⟩
  haveI : Stk X := ⟨stk, frm⟩
  haveI : PassC X := ⟨pass⟩
  haveI : Tk X (fun c dd _ H => E c dd H) := ⟨tk⟩
  haveI : ClsC X C := ⟨tc.cls⟩
  haveI : ClsC X CC := ⟨tcc.cls⟩
  haveI : NoC X C "made" := ⟨tc.n3⟩
  haveI : NoC X CC "rows" := ⟨tcc.n1⟩
  haveI : NoC X CC "starts" := ⟨tcc.n2⟩
  haveI : OwnC X "ByNought" (cs .nought) := ⟨e1⟩
  haveI : OwnC X "TooGreat" (cs .great) := ⟨e2⟩
  haveI : OwnC X "TooDeep" (cs .deep) := ⟨e3⟩
  haveI : OwnC X "Dry" (cs .dry) := ⟨e4⟩
  haveI : CallC X (fun c dd _ H => E c dd H) "need_start" (RStart cs) := callC D2 room' (letsX tk) kx (by repeat constructor) (by omega)
  haveI : MakeN X (fun c dd _ H => E c dd H) "Machine" C (PInitM C) := ⟨⟨_, _, _, DI, room'.mono (by omega), lets0⟩⟩
  haveI : SubC X (cs .nought) (cs .nought) true := ⟨hsub .nought .nought (.inl rfl) (.inl rfl)⟩
  haveI : SubC X (cs .great) (cs .nought) false := ⟨hsub .great .nought (.inr (.inl rfl)) (.inl rfl)⟩
  haveI : SubC X (cs .great) (cs .great) true := ⟨hsub .great .great (.inr (.inl rfl)) (.inr (.inl rfl))⟩
  haveI : SubC X (cs .deep) (cs .nought) false := ⟨hsub .deep .nought (.inr (.inr (.inl rfl))) (.inl rfl)⟩
  haveI : SubC X (cs .deep) (cs .great) false := ⟨hsub .deep .great (.inr (.inr (.inl rfl))) (.inr (.inl rfl))⟩
  haveI : SubC X (cs .deep) (cs .deep) true := ⟨hsub .deep .deep (.inr (.inr (.inl rfl))) (.inr (.inr (.inl rfl)))⟩
  haveI : SubC X (cs .dry) (cs .nought) false := ⟨hsub .dry .nought (.inr (.inr (.inr rfl))) (.inl rfl)⟩
  haveI : SubC X (cs .dry) (cs .great) false := ⟨hsub .dry .great (.inr (.inr (.inr rfl))) (.inr (.inl rfl))⟩
  haveI : SubC X (cs .dry) (cs .deep) false := ⟨hsub .dry .deep (.inr (.inr (.inr rfl))) (.inr (.inr (.inl rfl)))⟩
  haveI : SubC X (cs .dry) (cs .dry) true := ⟨hsub .dry .dry (.inr (.inr (.inr rfl))) (.inr (.inr (.inr rfl)))⟩
  haveI : AtM M c i (MO.ins CC dx (codeF (rowsD rows) (gsD gs))) := ⟨hM⟩
  dsimp only [zipV, n_run]
  refine hss_cons ?_
  walk_at "gg"
  intro p
  walk_at "gg"
  refine forN ?_
  refine hi_dct ?_
  walk_at "gg"
  refine ⟨_, rfl, fun n ds' M' => n ≤ gs.length ∧ M' = (p, MO.dct (cntM (cntG (gs.take n)))) :: M ∧ ∃ v, ds' = ([("code", .m c), ("name", .d (.str nm)), ("values", .d (.lst (vs.map .int))), ("fuel", .d (.int fuel)), ("counts", .m p), ("one", v), ("machine", .no), ("found", .no)] : Slots), ⟨Nat.zero_le _, rfl, _, rfl⟩, ?_, ?_⟩
  · rintro n y ds' M' hy ⟨hn, rfl, v, rfl⟩
    rw [List.map_map, List.getElem?_map] at hy
    obtain ⟨q, hq, rfl⟩ := Option.map_eq_some_iff.mp hy
    obtain ⟨a1, a2⟩ := lookG_at hnd hq
    have hlt := (List.getElem?_eq_some_iff.mp hq).1
    show UpP _ _ _ (.d (.str q.1)) _
    walk_at "gg"
    refine ix_gs a1 ?_
    rw [GS.dat]
    walk_at "gg"
    refine ⟨by rw [cntM_len, List.length_map, List.length_take]; exact Nat.lt_of_le_of_lt (show _ ≤ 1000 by omega) (by rw [sizeLine_eq]; decide), ?_⟩
    walk_at "gg"
    refine ⟨?_, _, rfl⟩
    rw [cntM_put a2, List.take_add_one, hq]
    simp [cntG]
  · rintro ds' M' ⟨hn, rfl, v, rfl⟩
    rw [List.length_map, List.length_map, List.take_length]
    refine hss_frz (i := 0) (d := cntD (cntG gs)) rfl .dct (.keep (.keep (.keep (.keep (.hit (.keep (.keep (.keep .nil)))))))) ?_
    dsimp only [List.eraseIdx]
    walk_at "gg"
    refine relP_of (RStart.mk (cntG gs) nm vs) ?_
    walk_at "gg"
    refine ⟨fun hst => ?_, fun x hst => ?_⟩
    · rw [hst] at hp
      obtain ⟨g, r, hg, hgr, hrun, hp⟩ := hp
      walk_at "gg"
      intro q dx
      refine ⟨q, dx, M, rowsD rows, fuel, rfl, rfl, fun sk fk => ⟨rfl, ?_⟩⟩
      have hM0 : machM C dx q sk fk (rowsD rows) fuel [] ⟨0, [], [], 0⟩ M = (q, .ins C dx (machF (rowsD rows) fuel 0 0 sk fk)) :: (sk, .lst []) :: (fk, .lst []) :: M := rfl
      rw [hM0]
      walk_at "gg"
      intro Y W' t tk'
      haveI : Kc Y _ _ _ _ := ⟨t.kx kx⟩
      haveI : Rc Y := .same t.same inferInstance
      haveI : Cc Y := .same t.same inferInstance
      haveI : ClsC Y C := ⟨by rw [t.K]; exact tc.cls⟩
      haveI : ClsC Y CC := ⟨by rw [t.K]; exact tcc.cls⟩
      haveI : NoC Y CC "starts" := ⟨by rw [t.K]; exact tcc.n2⟩
      haveI : CallG Y W' "went" (PWent C cs) := ⟨⟨_, _, _, by rw [t.prog, t.w, t.K, t.mg, t.base]; exact DW, by rw [t.A]; exact room', by have z := letsX tk'; rw [t.prog, t.w] at z; exact z⟩⟩
      walk_at "gg"
      refine ix_gs hg ?_
      walk_at "gg"
      refine ⟨_, .refl _, q, dx, sk, fk, rows, fuel, g.a, g.c, g.room, g.more, vs, M, r, rfl, hM0.symm, hrows, hvs, hgr, hvl, hrun, ?_⟩
      cases r with
      | val u m =>
        intro at_ sk2 fk2
        walk_at "gg"
        exact .tl (.all hp)
      | exc e m =>
        intro at_ sk2 fk2
        rcases runs_goes hrun with rfl | rfl | rfl | rfl
        all_goals
          walk_at "gg"
          intro Z sz
          haveI : Kc Z _ _ _ _ := ⟨sz.kx kx⟩
          haveI : ClsC Z C := ⟨by rw [sz.K]; exact tc.cls⟩
          haveI : NoC Z C "made" := ⟨by rw [sz.K]; exact tc.n3⟩
          walk_at "gg"
          exact .tl (.all hp)
    · rw [hst] at hp
      exact .all hp
end
/-! ### run alone, from what stands in the text -/
section
variable {P : Program} {w : World} {K : PySem.W.Frag} {mg : Str → Option Value} {base : Heap} {f : Addr} {fd : FuncData}
theorem run_def (hm : ∀ x ∈ BB, mg x = none) (cs : Ex → Addr) (own : ∀ x ∈ exL, OwnE K mg x.2 (cs x.1)) (sub : ∀ x ∈ exF, ∀ y ∈ exF, PySem.W.subIn K (.ref (cs x)) (.ref (cs y)) = some (decide (x = y))) (gM : ∃ t, mg "MOST" = some (.int 1000000000000 t)) (gD : ∃ t, mg "DEEPEST" = some (.int 20 t))
    {C CC : Addr} (tc : MCls K C) (tcc : CCls K CC) (T1 : FunAt K mg "reckoned" "reckoned" s_reckoned) (T2 : FunAt K mg "need_start" "need_start" s_need_start) (T3 : FunAt K mg "went" "went" s_went) (T4 : FunAt K mg "run" "run" s_run)
    (T5 : MakeAt K mg "Machine" C "Machine.__init__" s_Machine_init ["self", "rows", "fuel"]) (T6 : MethAt K C "enter" "Machine.enter" s_Machine_enter ["self", "row", "numbers", "room"]) (T7 : MethAt K C "call" "Machine.call" s_Machine_call ["self", "row"]) (T8 : MethAt K C "work" "Machine.work" s_Machine_work ["self"]) :
    Def P w K mg base (L2.CX P w) 5 "run" ["code", "name", "values", "fuel"] (spG K (PRun CC cs)) := by
  have Dr : Def P w K mg base (L2.CX P w) 1 "reckoned" ["word", "one", "other"] (spD K (RReck cs)) := def_of T1 (fun _ _ F => bd_reckoned F) fun F => ok_reckoned cs F hm gM (own (.nought, "ByNought") (by simp [exL])) (own (.great, "TooGreat") (by simp [exL]))
  have Ds : Def P w K mg base (L2.CX P w) 1 "need_start" ["counts", "name", "values"] (spD K (RStart cs)) := def_of T2 (fun _ _ F => bd_need_start F) fun F => ok_need_start cs F hm (own (.func, "NoSuchFunction") (by simp [exL])) (own (.count, "WrongCount") (by simp [exL]))
  have DI : KDef P w K mg base CX0 1 "Machine" C ["self", "rows", "fuel"] (spG K (PInitM C)) := by
    obtain ⟨f, fd, F, M, b, m⟩ := T5
    exact ⟨f, fd, ok_minit C F hm tc, M, b, m⟩
  obtain ⟨fe, fde, Fe, Me, be⟩ := T6
  obtain ⟨fc, fdc, Fc, Mc, bc⟩ := T7
  obtain ⟨fw, fdw, Fw, Mw, bw⟩ := T8
  have DE : ∀ rows fuel, MDef P w K mg base (L2.CX P w) 1 C "enter" ["self", "row", "numbers", "room"] (spG K (PEnter C cs rows fuel)) := fun rows fuel => ⟨fe, fde, ok_enter C cs rows fuel Fe hm tc gD (own (.deep, "TooDeep") (by simp [exL])) (own (.dry, "Dry") (by simp [exL])), Me, be⟩
  have DC : ∀ rows fuel, MDef P w K mg base (L2.CX P w) 2 C "call" ["self", "row"] (spG K (PCallR C cs rows fuel)) := fun rows fuel => ⟨fc, fdc, ok_call C cs rows fuel Fc hm tc (DE rows fuel), Mc, bc⟩
  have DW : ∀ rows fuel, MDef P w K mg base (L2.CX P w) 3 C "work" ["self"] (spG K (PStep C cs rows fuel)) := fun rows fuel => ⟨fw, fdw, ok_work C cs rows fuel Fw hm tc (DC _ fuel) Dr, Mw, bw⟩
  have Dt : Def P w K mg base (L2.CX P w) 4 "went" ["machine", "start", "values"] (spG K (PWent C cs)) := def_of T3 (fun _ _ F => bd_went F) fun F => ok_went C cs F hm tc DE DW
  have four : ∀ a, Goes a → a ∈ exF := by
    rintro a (rfl | rfl | rfl | rfl) <;> simp [exF]
  exact def_of T4 (fun _ _ F => bd_run F) fun F => ok_run C CC cs F hm tc tcc (own (.nought, "ByNought") (by simp [exL])) (own (.great, "TooGreat") (by simp [exL])) (own (.deep, "TooDeep") (by simp [exL])) (own (.dry, "Dry") (by simp [exL]))
    (fun a b ha hb => sub a (four a ha) b (four b hb)) Ds DI Dt
end
/-! ### k06: rows of the law's own, in plain Lean -/
inductive R6 where
  | row (r : Row) | call (b c room : Nat)
def R6.place (L : Nat) : R6 → Row
  | .row r => r
  | .call b c room => .call (L + 2 * b) c room
def R6.dat : R6 → Dat
  | .row r => r.dat
  | .call b c room => .tup [.str "call", .int (-1 - (b : Int)), .int c, .int room]
/-- the second function -/
def sec6 : List Row := [.push 0, .keep 2, .load 0, .load 1, .dod .less, .load 2, .dod .sum, .keep 2, .load 2, .load 2, .dod .times, .back]
section
variable {F : List Row} {fuel : Int} {n : Nat} {T : List Int} {ret : Nat} {sl : List Int} {fr : List (Nat × List Int)} {m : Nat}
theorem go_push {i : Int} (h : F[n]? = some (.push i)) (hT : T.length < 300000) : Go F fuel ⟨n, T, (ret, sl) :: fr, m⟩ ⟨n + 1, i :: T, (ret, sl) :: fr, m⟩ := .one (by rw [mstep_at h, mrow, if_pos hT])
theorem go_load {k : Nat} {v : Int} (h : F[n]? = some (.load k)) (hv : sl[k]? = some v) (hT : T.length < 300000) : Go F fuel ⟨n, T, (ret, sl) :: fr, m⟩ ⟨n + 1, v :: T, (ret, sl) :: fr, m⟩ := .one (by rw [mstep_at h, mrow]; simp only [hv]; rw [if_pos hT])
theorem go_keep {k : Nat} {v : Int} (h : F[n]? = some (.keep k)) (hk : k < sl.length) : Go F fuel ⟨n, v :: T, (ret, sl) :: fr, m⟩ ⟨n + 1, T, (ret, sl.set k v) :: fr, m⟩ := .one (by rw [mstep_at h, mrow]; simp only []; rw [if_pos hk])
theorem go_do {w : Deed} {a b z : Int} (h : F[n]? = some (.dod w)) (hz : reckon w a b = .ok z) : Go F fuel ⟨n, b :: a :: T, (ret, sl) :: fr, m⟩ ⟨n + 1, z :: T, (ret, sl) :: fr, m⟩ := .one (by rw [mstep_at h, mrow]; simp only [hz])
theorem err_do {w : Deed} {a b : Int} {e : Ex} (h : F[n]? = some (.dod w)) (hz : reckon w a b = .error e) : mstep F fuel ⟨n, b :: a :: T, (ret, sl) :: fr, m⟩ = some (.error e) := by rw [mstep_at h, mrow]; simp only [hz]
theorem go_unless {r : Nat} {v : Int} (h : F[n]? = some (.unless r)) : Go F fuel ⟨n, v :: T, (ret, sl) :: fr, m⟩ ⟨if v = 0 then r else n + 1, T, (ret, sl) :: fr, m⟩ := .one (by rw [mstep_at h, mrow])
theorem go_skip {r : Nat} (h : F[n]? = some (.skip r)) : Go F fuel ⟨n, T, (ret, sl) :: fr, m⟩ ⟨r, T, (ret, sl) :: fr, m⟩ := .one (by rw [mstep_at h, mrow])
theorem go_back (h : F[n]? = some .back) : Go F fuel ⟨n, T, (ret, sl) :: fr, m⟩ ⟨ret, T, fr, m⟩ := .one (by rw [mstep_at h, mrow])
end
theorem lim_ok {z v : Int} (h : lim z = .ok v) : v = z ∧ Small z := by
  unfold lim at h
  split at h
  · cases h
  · cases h
    exact ⟨rfl, by unfold Small; omega⟩
theorem lim_small {z : Int} (h : Small z) : lim z = .ok z := by
  unfold lim Small at *
  rw [if_neg (by omega)]
/-- what a call of the second function comes to -/
def sq6 (x y : Int) : Except Ex Int := match reckon .less x y with
  | .ok d => reckon .times d d
  | .error e => .error e
/-- it comes to that, or to that refusal -/
def Res6 (F : List Row) (fuel : Int) (s0 : MS) (ret : Nat) (T : List Int) (fr : List (Nat × List Int)) (m : Nat) : Except Ex Int → Prop
  | .ok v => Go F fuel s0 ⟨ret, v :: T, fr, m⟩
  | .error e => ∃ s', Go F fuel s0 s' ∧ mstep F fuel s' = some (.error e) ∧ s'.made = m
theorem Res6.after {F : List Row} {fuel : Int} {a b : MS} {ret : Nat} {T : List Int} {fr : List (Nat × List Int)} {m : Nat} {o : Except Ex Int} (g : Go F fuel a b) (h : Res6 F fuel b ret T fr m o) : Res6 F fuel a ret T fr m o := by
  cases o with
  | ok v => exact g.trans h
  | error e =>
    obtain ⟨s', a, b, c⟩ := h
    exact ⟨s', g.trans a, b, c⟩
theorem sec_go2 {F : List Row} {fuel : Int} {L : Nat} {x y : Int} {z : List Int} {T : List Int} {ret : Nat} {fr : List (Nat × List Int)} {m : Nat} (h : CodeAt F L sec6) (hT : T.length < 200000) :
    Res6 F fuel ⟨L + 2, T, (ret, x :: y :: 0 :: z) :: fr, m⟩ ret T fr m (sq6 x y) := by
  have c : ∀ i r, sec6[i]? = some r → F[L + i]? = some r := h
  refine .after (go_load (c 2 _ rfl) rfl (by omega)) ?_
  refine .after (go_load (c 3 _ rfl) rfl (by rw [List.length_cons]; omega)) ?_
  cases hd : reckon .less x y with
  | error e =>
    rw [sq6, hd]
    exact ⟨_, .refl _, err_do (c 4 _ rfl) hd, rfl⟩
  | ok d =>
    have e1 : sq6 x y = reckon .times d d := by rw [sq6, hd]
    rw [e1]
    have sd : Small d := by
      obtain ⟨rfl, s⟩ := lim_ok hd
      exact s
    refine .after (go_do (c 4 _ rfl) hd) ?_
    refine .after (go_load (c 5 _ rfl) rfl (by rw [List.length_cons]; omega)) ?_
    refine .after (go_do (c 6 _ rfl) (show reckon .sum d 0 = .ok d by rw [reckon, Int.add_zero]; exact lim_small sd)) ?_
    refine .after (go_keep (c 7 _ rfl) (by simp)) ?_
    refine .after (go_load (c 8 _ rfl) rfl (by omega)) ?_
    refine .after (go_load (c 9 _ rfl) rfl (by rw [List.length_cons]; omega)) ?_
    cases he : reckon .times d d with
    | error e => exact ⟨_, .refl _, err_do (c 10 _ rfl) he, rfl⟩
    | ok v => exact (go_do (c 10 _ rfl) he).trans (go_back (c 11 _ rfl))
theorem sec_go {F : List Row} {fuel : Int} {L b : Nat} {x y : Int} {z : List Int} {T : List Int} {ret : Nat} {fr : List (Nat × List Int)} {m : Nat} (hb : b = 0 ∨ b = 1) (h : CodeAt F L sec6) (hT : T.length < 200000) :
    Res6 F fuel ⟨L + 2 * b, T, (ret, x :: y :: 0 :: z) :: fr, m⟩ ret T fr m (sq6 x y) := by
  have c : ∀ i r, sec6[i]? = some r → F[L + i]? = some r := h
  rcases hb with rfl | rfl
  · refine .after (go_push (c 0 _ rfl) (by omega)) ?_
    refine .after (go_keep (c 1 _ rfl) (by simp)) ?_
    exact sec_go2 h hT
  · exact sec_go2 h hT
/-! ### what has been gone through -/
def Gets6 (fuel : Int) (S0 : MS) (R : List R6) (P : List Row → Prop) : Prop := ∀ F L, CodeAt F 0 (R.map (R6.place L)) → CodeAt F L sec6 → P F
def Reach6 (fuel : Int) (S0 : MS) (R : List R6) (t sl : List Int) (m : Nat) : Prop := ∀ F L, CodeAt F 0 (R.map (R6.place L)) → CodeAt F L sec6 → Go F fuel S0 ⟨R.length, t, [(0, sl)], m⟩
def Fail6 (fuel : Int) (S0 : MS) (R : List R6) (e : Ex) (m : Nat) : Prop := ∀ F L, CodeAt F 0 (R.map (R6.place L)) → CodeAt F L sec6 → ∃ s', Go F fuel S0 s' ∧ mstep F fuel s' = some (.error e) ∧ s'.made = m
theorem codeAt_app {F : List Row} {L : Nat} {R more : List R6} (h : CodeAt F 0 ((R ++ more).map (R6.place L))) : CodeAt F 0 (R.map (R6.place L)) ∧ CodeAt F R.length (more.map (R6.place L)) := by
  rw [List.map_append] at h
  have r := h.right
  rw [Nat.zero_add, List.length_map] at r
  exact ⟨h.left, r⟩
section
variable {fuel : Int} {S0 : MS} {R : List R6} {t sl : List Int} {m : Nat}
theorem Reach6.app {more : List R6} {t' sl' : List Int} {m' : Nat} (g : Reach6 fuel S0 R t sl m) (h : ∀ F L, CodeAt F R.length (more.map (R6.place L)) → CodeAt F L sec6 → Go F fuel ⟨R.length, t, [(0, sl)], m⟩ ⟨R.length + more.length, t', [(0, sl')], m'⟩) : Reach6 fuel S0 (R ++ more) t' sl' m' := fun F L c s => by
  obtain ⟨c1, c2⟩ := codeAt_app c
  rw [List.length_append]
  exact (g F L c1 s).trans (h F L c2 s)
theorem Reach6.bad {more : List R6} {e : Ex} {m' : Nat} (g : Reach6 fuel S0 R t sl m) (h : ∀ F L, CodeAt F R.length (more.map (R6.place L)) → CodeAt F L sec6 → ∃ s', Go F fuel ⟨R.length, t, [(0, sl)], m⟩ s' ∧ mstep F fuel s' = some (.error e) ∧ s'.made = m') : Fail6 fuel S0 (R ++ more) e m' := fun F L c s => by
  obtain ⟨c1, c2⟩ := codeAt_app c
  obtain ⟨s', a, b, d⟩ := h F L c2 s
  exact ⟨s', (g F L c1 s).trans a, b, d⟩
theorem Fail6.app {more : List R6} {e : Ex} (g : Fail6 fuel S0 R e m) : Fail6 fuel S0 (R ++ more) e m := fun F L c s => g F L (codeAt_app c).1 s
variable (g : Reach6 fuel S0 R t sl m) (ht : t.length < 100000)
include g ht
theorem reach_push {i : Int} : Reach6 fuel S0 (R ++ [.row (.push i)]) (i :: t) sl m := g.app fun F L c s => go_push c.hd (by omega)
theorem reach_load {k : Nat} {v : Int} (hv : sl[k]? = some v) : Reach6 fuel S0 (R ++ [.row (.load k)]) (v :: t) sl m := g.app fun F L c s => go_load c.hd hv (by omega)
theorem reach_skip {i : Int} : Reach6 fuel S0 (R ++ [.row (.skip (R.length + 2)), .row (.push i)]) t sl m := g.app fun F L c s => go_skip c.hd
omit ht in
theorem reach_keep {k : Nat} {v : Int} {t' : List Int} (e : t = v :: t') (hk : k < sl.length) : Reach6 fuel S0 (R ++ [.row (.keep k)]) t' (sl.set k v) m := by
  subst e
  exact g.app fun F L c s => go_keep c.hd hk
theorem reach_unless {v i j : Int} {t' : List Int} (e : t = v :: t') : Reach6 fuel S0 (R ++ [.row (.unless (R.length + 3)), .row (.push i), .row (.skip (R.length + 4)), .row (.push j)]) ((if v = 0 then j else i) :: t') sl m := by
  subst e
  rw [List.length_cons] at ht
  refine g.app fun F L c s => ?_
  refine (go_unless c.hd).trans ?_
  by_cases h : v = 0
  · rw [if_pos h, if_pos h]
    exact go_push c.tl.tl.tl.hd (by omega)
  · rw [if_neg h, if_neg h]
    exact (go_push c.tl.hd (by omega)).trans (go_skip c.tl.tl.hd)
omit ht in
theorem reach_do {w : Deed} {a b z : Int} {t' : List Int} (e : t = b :: a :: t') (hz : reckon w a b = .ok z) : Reach6 fuel S0 (R ++ [.row (.dod w)]) (z :: t') sl m := by
  subst e
  exact g.app fun F L c s => go_do c.hd hz
omit ht in
theorem fail_do {w : Deed} {a b : Int} {e : Ex} {t' : List Int} (e' : t = b :: a :: t') (hz : reckon w a b = .error e) : Fail6 fuel S0 (R ++ [.row (.dod w)]) e m := by
  subst e'
  exact g.bad fun F L c s => ⟨_, .refl _, err_do c.hd hz, rfl⟩
end
theorem mrow_call {F : List Row} {fuel : Int} {n r c room : Nat} {T : List Int} {ret : Nat} {sl : List Int} {m : Nat} (h : F[n]? = some (.call r c room)) (hc : c ≤ T.length) (hr : room ≤ 100000) :
    mstep F fuel ⟨n, T, [(ret, sl)], m⟩ = some (if (m : Int) = fuel then .error .dry else .ok ⟨r, T.drop c, [(n + 1, (T.take c).reverse ++ List.replicate (room - (T.take c).reverse.length) 0), (ret, sl)], m + 1⟩) := by
  rw [mstep_at h, mrow, if_pos ⟨hc, hr⟩, enterM, if_neg (by simp)]
/-- the things of a call, and a nought behind them -/
theorem call_slots {t : List Int} {c room : Nat} (hc : c = 1 ∨ c = 2) (hl : c ≤ t.length) (hr : 3 ≤ room) : ∃ x y z, (t.take c).reverse ++ List.replicate (room - (t.take c).reverse.length) 0 = x :: y :: 0 :: z ∧ ((t.take c).reverse ++ [0]).take 2 = [x, y] := by
  rcases hc with rfl | rfl
  · match t, hl with
    | b :: r, _ =>
      refine ⟨b, 0, List.replicate (room - 3) 0, ?_, rfl⟩
      show b :: List.replicate (room - 1) 0 = _
      rw [show room - 1 = (room - 3) + 1 + 1 by omega, List.replicate_succ, List.replicate_succ]
  · match t, hl with
    | b :: a :: r, _ =>
      refine ⟨a, b, List.replicate (room - 3) 0, ?_, rfl⟩
      show a :: b :: List.replicate (room - 2) 0 = _
      rw [show room - 2 = (room - 3) + 1 by omega, List.replicate_succ]
section
variable {fuel : Int} {S0 : MS} {R : List R6} {t sl : List Int} {m : Nat} (g : Reach6 fuel S0 R t sl m) (ht : t.length < 100000) {b c room : Nat} (hb : b = 0 ∨ b = 1) (hr : 3 ≤ room) (hr2 : room ≤ 1000) (hcl : c ≤ t.length)
include g hr2 hcl
theorem fail_dry (h : (m : Int) = fuel) : Fail6 fuel S0 (R ++ [.call b c room]) .dry m := g.bad fun F L cd s => ⟨_, .refl _, by rw [mrow_call cd.hd hcl (by omega), if_pos h], rfl⟩
variable {x y : Int} {z : List Int} (hz : (t.take c).reverse ++ List.replicate (room - (t.take c).reverse.length) 0 = x :: y :: 0 :: z) (h : ¬ (m : Int) = fuel)
include ht hb hz h
theorem call_res {F : List Row} {L : Nat} (cd : CodeAt F R.length ([R6.call b c room].map (R6.place L))) (s : CodeAt F L sec6) : Res6 F fuel ⟨R.length, t, [(0, sl)], m⟩ (R.length + 1) (t.drop c) [(0, sl)] (m + 1) (sq6 x y) := by
  refine .after (.one (by rw [mrow_call cd.hd hcl (by omega), if_neg h, hz])) ?_
  exact sec_go hb s (by rw [List.length_drop]; omega)
theorem reach_call {v : Int} (hv : sq6 x y = .ok v) : Reach6 fuel S0 (R ++ [.call b c room]) (v :: t.drop c) sl (m + 1) := g.app fun F L cd s => by
  have q := call_res g ht hb hr2 hcl hz h cd s
  rw [hv] at q
  exact q
theorem fail_call {e : Ex} (hv : sq6 x y = .error e) : Fail6 fuel S0 (R ++ [.call b c room]) e (m + 1) := g.bad fun F L cd s => by
  have q := call_res g ht hb hr2 hcl hz h cd s
  rw [hv] at q
  exact q
end
/-! ### k06: the loop and the end, in plain Lean -/
abbrev A6 (vs : List Int) (j s : Int) : List Int := vs ++ [j, 0, s]
section
variable {vs : List Int} {many : Nat} (hv : vs.length = many) {j s x : Int}
include hv
theorem a6_get0 : (A6 vs j s)[many]? = some j := by rw [List.getElem?_append_right (by omega), hv, Nat.sub_self]; rfl
theorem a6_get2 : (A6 vs j s)[many + 2]? = some s := by rw [List.getElem?_append_right (by omega), hv, Nat.add_sub_cancel_left]; rfl
theorem a6_set0 : (A6 vs j s).set many x = A6 vs x s := by rw [List.set_append_right _ _ (by omega), hv, Nat.sub_self]; rfl
theorem a6_set2 : (A6 vs j s).set (many + 2) x = A6 vs j x := by rw [List.set_append_right _ _ (by omega), hv, Nat.add_sub_cancel_left]; rfl
theorem a6_len : (A6 vs j s).length = many + 3 := by rw [List.length_append, hv]; rfl
end
def more6 (many : Nat) : List Row := [.load (many + 2), .load many, .dod .sum, .keep (many + 2), .load many, .push 1, .dod .less, .keep many]
def loop6 (rounds many : Nat) (late : Bool) : List Row := [.push rounds, .keep many] ++ if late then more6 many ++ [.load many, .push 1, .dod .below, .unless 2] else [.load many, .unless 13] ++ (more6 many ++ [.skip 2])
section
variable {F : List Row} {fuel : Int} {k : Nat} {vs : List Int} {many : Nat} (hv : vs.length = many) {m ret : Nat} {fr : List (Nat × List Int)}
include hv
theorem more_go {j s : Int} (h : CodeAt F k (more6 many)) (hj : -1000 ≤ j ∧ j ≤ 1000) (hs : -100000 ≤ s ∧ s ≤ 100000) : Go F fuel ⟨k, [], (ret, A6 vs j s) :: fr, m⟩ ⟨k + 8, [], (ret, A6 vs (j - 1) (s + j)) :: fr, m⟩ := by
  have c : ∀ i r, (more6 many)[i]? = some r → F[k + i]? = some r := h
  have l3 := a6_len hv (j := j) (s := s)
  have l4 := a6_len hv (j := j) (s := s + j)
  refine (go_load (c 0 _ rfl) (a6_get2 hv) (by simp)).trans ?_
  refine (go_load (c 1 _ rfl) (a6_get0 hv) (by simp)).trans ?_
  refine (go_do (c 2 _ rfl) (lim_small (z := s + j) (by unfold Small most; omega))).trans ?_
  refine (go_keep (c 3 _ rfl) (by omega)).trans ?_
  rw [a6_set2 hv]
  refine (go_load (c 4 _ rfl) (a6_get0 hv) (by simp)).trans ?_
  refine (go_push (c 5 _ rfl) (by simp)).trans ?_
  refine (go_do (c 6 _ rfl) (lim_small (z := j - 1) (by unfold Small most; omega))).trans ?_
  have q := go_keep (F := F) (fuel := fuel) (T := []) (ret := ret) (fr := fr) (m := m) (v := j - 1) (c 7 _ rfl) (show many < (A6 vs j (s + j)).length by omega)
  rw [a6_set0 hv] at q
  exact q
/-- what is summed -/
def tri6 : Nat → Int
  | 0 => 0
  | j + 1 => tri6 j + ((j : Int) + 1)
omit hv in
theorem tri6_eq : ∀ j : Nat, tri6 j = (j : Int) * ((j : Int) + 1) / 2
  | 0 => rfl
  | j + 1 => by
    rw [tri6, tri6_eq j]
    have e : ((j + 1 : Nat) : Int) * (((j + 1 : Nat) : Int) + 1) = (j : Int) * ((j : Int) + 1) + 2 * ((j : Int) + 1) := by
      rw [show ((j + 1 : Nat) : Int) = (j : Int) + 1 by omega, Int.add_mul, Int.mul_add (j : Int) ((j : Int) + 1) 1, Int.mul_one, Int.one_mul]
      omega
    rw [e]
    omega
omit hv in
theorem tri6_le : ∀ j : Nat, 0 ≤ tri6 j ∧ tri6 j ≤ (j : Int) * 20 ∨ 20 < j
  | 0 => .inl ⟨by rw [tri6]; omega, by rw [tri6]; omega⟩
  | j + 1 => by
    rcases tri6_le j with h | h
    · by_cases hj : 20 < j + 1
      · exact .inr hj
      · left
        rw [tri6]
        omega
    · exact .inr (by omega)
theorem early_go (h : CodeAt F 2 ([.load many, .unless 13] ++ (more6 many ++ [.skip 2]))) : ∀ (j : Nat) (s : Int), j ≤ 20 → 0 ≤ s → s + (j : Int) * 20 ≤ 1000 → Go F fuel ⟨2, [], (ret, A6 vs j s) :: fr, m⟩ ⟨13, [], (ret, A6 vs 0 (s + tri6 j)) :: fr, m⟩
  | 0, s, _, hs, hb => by
    have c : ∀ i r, ([.load many, .unless 13] ++ (more6 many ++ [.skip 2]))[i]? = some r → F[2 + i]? = some r := h
    refine (go_load (c 0 _ rfl) (a6_get0 hv) (by simp)).trans ?_
    have q := go_unless (F := F) (fuel := fuel) (T := []) (ret := ret) (sl := A6 vs ((0 : Nat) : Int) s) (fr := fr) (m := m) (v := ((0 : Nat) : Int)) (c 1 _ rfl)
    rw [if_pos (by rfl)] at q
    rw [tri6, Int.add_zero]
    exact q
  | j + 1, s, hj, hs, hb => by
    have c : ∀ i r, ([.load many, .unless 13] ++ (more6 many ++ [.skip 2]))[i]? = some r → F[2 + i]? = some r := h
    refine (go_load (c 0 _ rfl) (a6_get0 hv) (by simp)).trans ?_
    have q := go_unless (F := F) (fuel := fuel) (T := []) (ret := ret) (sl := A6 vs ((j + 1 : Nat) : Int) s) (fr := fr) (m := m) (v := ((j + 1 : Nat) : Int)) (c 1 _ rfl)
    rw [if_neg (by omega)] at q
    refine q.trans ?_
    refine (more_go hv (k := 4) h.right.left (by omega) (by omega)).trans ?_
    refine (go_skip (c 10 _ rfl)).trans ?_
    have e : ((j + 1 : Nat) : Int) - 1 = (j : Int) := by omega
    rw [e]
    have ih := early_go h j (s + ((j + 1 : Nat) : Int)) (by omega) (by omega) (by omega)
    rw [tri6, show s + (tri6 j + ((j : Int) + 1)) = s + ((j + 1 : Nat) : Int) + tri6 j by omega]
    exact ih
theorem late_go (h : CodeAt F 2 (more6 many ++ [.load many, .push 1, .dod .below, .unless 2])) : ∀ (j : Nat) (s : Int), j ≤ 20 → 0 ≤ s → s + (j : Int) * 20 ≤ 1000 → Go F fuel ⟨2, [], (ret, A6 vs j s) :: fr, m⟩ ⟨14, [], (ret, A6 vs (if j = 0 then -1 else 0) (s + tri6 j)) :: fr, m⟩ := by
  have c : ∀ i r, (more6 many ++ [.load many, .push 1, .dod .below, .unless 2])[i]? = some r → F[2 + i]? = some r := h
  have turn : ∀ (j s : Int), -1000 ≤ j ∧ j ≤ 1000 → -100000 ≤ s ∧ s ≤ 100000 → Go F fuel ⟨2, [], (ret, A6 vs j s) :: fr, m⟩ ⟨if (if j - 1 < 1 then (1 : Int) else 0) = 0 then 2 else 14, [], (ret, A6 vs (j - 1) (s + j)) :: fr, m⟩ := fun j s hj hs => by
    refine (more_go hv (k := 2) h.left hj hs).trans ?_
    refine (go_load (c 8 _ rfl) (a6_get0 hv) (by simp)).trans ?_
    refine (go_push (c 9 _ rfl) (by simp)).trans ?_
    refine (go_do (c 10 _ rfl) rfl).trans ?_
    exact go_unless (c 11 _ rfl)
  intro j
  induction j with
  | zero =>
    intro s _ hs hb
    have q := turn ((0 : Nat) : Int) s (by omega) (by omega)
    have e1 : (if ((0 : Nat) : Int) - 1 < 1 then (1 : Int) else 0) = 1 := if_pos (by omega)
    rw [e1, if_neg (by decide)] at q
    rw [if_pos rfl, tri6]
    exact q
  | succ j ih =>
    intro s hj hs hb
    have q := turn ((j + 1 : Nat) : Int) s (by omega) (by omega)
    have e : ((j + 1 : Nat) : Int) - 1 = (j : Int) := by omega
    rw [e] at q
    by_cases h0 : j = 0
    · subst h0
      have e1 : (if ((0 : Nat) : Int) < 1 then (1 : Int) else 0) = 1 := if_pos (by omega)
      rw [e1, if_neg (by decide)] at q
      rw [if_neg (by omega), tri6, tri6]
      exact q
    · have e1 : (if (j : Int) < 1 then (1 : Int) else 0) = 0 := if_neg (by omega)
      rw [e1, if_pos rfl] at q
      refine q.trans ?_
      have i := ih (s + ((j + 1 : Nat) : Int)) (by omega) (by omega) (by omega)
      rw [if_neg h0] at i
      rw [if_neg (by omega), tri6, show s + (tri6 j + ((j : Int) + 1)) = s + ((j + 1 : Nat) : Int) + tri6 j by omega]
      exact i
end
theorem place_rows (L : Nat) (l : List Row) : (l.map R6.row).map (R6.place L) = l := by
  rw [List.map_map]
  exact List.map_id l
/-- where the law's own rows begin -/
abbrev start6 (vs : List Int) : MS := ⟨0, [], [(0, A6 vs 0 0)], 1⟩
theorem loop_reach {fuel : Int} {vs : List Int} {many rounds : Nat} (hv : vs.length = many) (hr : rounds ≤ 12) (late : Bool) :
    Reach6 fuel (start6 vs) ((loop6 rounds many late).map R6.row) [] (A6 vs (if late = true ∧ rounds = 0 then -1 else 0) (tri6 rounds)) 1 := by
  intro F L c _
  rw [place_rows] at c
  have h01 := c.left
  have hl := a6_len hv (j := 0) (s := 0)
  refine (go_push h01.hd (by simp)).trans ?_
  refine (go_keep h01.tl.hd (by omega)).trans ?_
  rw [a6_set0 hv, List.length_map]
  have z : (0 : Int) + tri6 rounds = tri6 rounds := Int.zero_add _
  cases late with
  | false =>
    have q := early_go (fuel := fuel) (m := 1) (ret := 0) (fr := []) hv (F := F) c.right rounds 0 (by omega) (by omega) (by omega)
    rw [z] at q
    rw [if_neg (fun h => by cases h.1)]
    exact q
  | true =>
    have q := late_go (fuel := fuel) (m := 1) (ret := 0) (fr := []) hv (F := F) c.right rounds 0 (by omega) (by omega) (by omega)
    rw [z] at q
    have e : (if true = true ∧ rounds = 0 then (-1 : Int) else 0) = if rounds = 0 then -1 else 0 := by
      by_cases h : rounds = 0
      · rw [if_pos ⟨rfl, h⟩, if_pos h]
      · rw [if_neg (fun z => h z.2), if_neg h]
    rw [e]
    exact q
/-! ### the end -/
def end6 (many k : Nat) : List Row := [.keep many] ++ (List.replicate k (.keep (many + 1)) ++ [.load many, .load (many + 2), .dod .sum, .back])
theorem keeps_go {F : List Row} {fuel : Int} {q : Nat} {sl0 : List Int} {m ret : Nat} {fr : List (Nat × List Int)} {a b : Nat} (ha : a ≠ q) (hb : b ≠ q) : ∀ (t : List Int) (k : Nat) (sl : List Int), q < sl.length → sl[a]? = sl0[a]? → sl[b]? = sl0[b]? → CodeAt F k (List.replicate t.length (.keep q)) →
    ∃ sl', sl'[a]? = sl0[a]? ∧ sl'[b]? = sl0[b]? ∧ Go F fuel ⟨k, t, (ret, sl) :: fr, m⟩ ⟨k + t.length, [], (ret, sl') :: fr, m⟩
  | [], k, sl, _, h1, h2, _ => ⟨sl, h1, h2, .refl _⟩
  | x :: t, k, sl, hq, h1, h2, c => by
    rw [List.length_cons, List.replicate_succ] at c
    obtain ⟨sl', a1, a2, a3⟩ := keeps_go (sl0 := sl0) (fuel := fuel) (m := m) (ret := ret) (fr := fr) ha hb t (k + 1) (sl.set q x) (by rw [List.length_set]; exact hq) (by rw [List.getElem?_set_ne (fun z => ha z.symm)]; exact h1) (by rw [List.getElem?_set_ne (fun z => hb z.symm)]; exact h2) c.tl
    refine ⟨sl', a1, a2, ?_⟩
    have g := (go_keep (fuel := fuel) (m := m) (ret := ret) (fr := fr) (T := t) (v := x) c.hd hq).trans a3
    rw [List.length_cons, show k + (t.length + 1) = k + 1 + t.length by omega]
    exact g
/-- the whole of the rows -/
def fin6 (R : List R6) : List Row := R.map (R6.place R.length) ++ sec6
theorem fin6_at (R : List R6) : CodeAt (fin6 R) 0 (R.map (R6.place R.length)) ∧ CodeAt (fin6 R) R.length sec6 := by
  have h := CodeAt.self (fin6 R)
  have r := CodeAt.right h
  rw [Nat.zero_add, List.length_map] at r
  exact ⟨CodeAt.left h, r⟩
def due6 (fuel : Int) (m : Nat) : Except Ex Int → Rs
  | .ok z => if (0 : Int) = fuel then .exc .dry 0 else .val z m
  | .error e => if (0 : Int) = fuel then .exc .dry 0 else .exc e m
theorem runs_bad {fuel : Int} {vs : List Int} {many : Nat} (hv : vs.length = many) {R more : List R6} {e : Ex} {m : Nat} (h : Fail6 fuel (start6 vs) R e m) : RunsTo (fin6 (R ++ more)) fuel 0 (many + 3) vs (due6 fuel m (.error e)) := by
  unfold RunsTo due6
  by_cases h0 : (0 : Int) = fuel
  · exact .inl ⟨h0, by simp only; rw [if_pos h0]⟩
  · refine .inr ⟨h0, ?_⟩
    simp only
    rw [if_neg h0]
    obtain ⟨c1, c2⟩ := fin6_at (R ++ more)
    obtain ⟨s', g, b, rfl⟩ := h.app (more := more) _ _ c1 c2
    have e : vs ++ List.replicate (many + 3 - vs.length) 0 = A6 vs 0 0 := by rw [hv, Nat.add_sub_cancel_left]; rfl
    rw [e]
    exact g.ends (.err (n := 0) b)
theorem runs_good {fuel : Int} {vs : List Int} {many : Nat} (hv : vs.length = many) {R : List R6} {x u : Int} {t sl : List Int} {m : Nat} (h : Reach6 fuel (start6 vs) R (x :: t) sl m) (hl : sl.length = many + 3) (hu : sl[many + 2]? = some u) (ht : t.length < 100000) :
    RunsTo (fin6 (R ++ (end6 many t.length).map R6.row)) fuel 0 (many + 3) vs (due6 fuel m (reckon .sum x u)) := by
  unfold RunsTo due6
  by_cases h0 : (0 : Int) = fuel
  · refine .inl ⟨h0, ?_⟩
    cases reckon .sum x u <;> simp only <;> rw [if_pos h0]
  · refine .inr ⟨h0, ?_⟩
    obtain ⟨c1, c2⟩ := fin6_at (R ++ (end6 many t.length).map R6.row)
    generalize fin6 (R ++ (end6 many t.length).map R6.row) = F at c1 c2
    obtain ⟨d1, d2⟩ := codeAt_app c1
    rw [place_rows] at d2
    have g := h F _ d1 c2
    have e : vs ++ List.replicate (many + 3 - vs.length) 0 = A6 vs 0 0 := by rw [hv, Nat.add_sub_cancel_left]; rfl
    rw [e]
    have d3 := d2.right
    have g := g.trans (go_keep d2.left.hd (by omega))
    obtain ⟨sl', a1, a2, a3⟩ := keeps_go (fuel := fuel) (m := m) (ret := 0) (fr := []) (a := many) (b := many + 2) (q := many + 1) (sl0 := sl.set many x) (by omega) (by omega) t (R.length + 1) (sl.set many x) (by rw [List.length_set]; omega) rfl rfl d3.left
    rw [List.getElem?_set_self (by omega)] at a1
    rw [List.getElem?_set_ne (by omega), hu] at a2
    have g := g.trans a3
    have d4 := d3.right
    rw [List.length_replicate] at d4
    have g := g.trans (go_load (n := R.length + 1 + t.length) d4.hd a1 (by simp))
    have g := g.trans (go_load d4.tl.hd a2 (by simp))
    cases hz : reckon .sum x u with
    | ok z =>
      simp only
      rw [if_neg h0]
      have g := g.trans (go_do d4.tl.tl.hd hz)
      have g := g.trans (go_back d4.tl.tl.tl.hd)
      exact g.ends (.done (rows := F) (fuel := fuel) (v := z) (st := []) rfl rfl)
    | error e =>
      simp only
      rw [if_neg h0]
      exact g.ends (.err (n := 0) (err_do d4.tl.tl.hd hz))
/-! ### _law_cell_at -/
def cellAt (ns : List Int) (k : Int) : Int := if k < ns.length then (atI ns k).getD 0 else 0
inductive RCellAt : List Dat → Oc → Prop
  | mk (ns : List Int) (k : Int) (hk : 0 ≤ k) : RCellAt [.scr ns, .int k] (.val (.int (cellAt ns k)))
theorem at_get {ns : List Int} {k : Int} (h0 : 0 ≤ k) (h : k < ns.length) : atI ns k = some ((atI ns k).getD 0) := by
  have e : atI ns k = ns[k.toNat]? := by
    unfold atI ixN
    rw [if_pos h0, if_pos h]
    rfl
  rw [e, List.getElem?_eq_getElem (by omega)]
  rfl
section
variable {P : Program} {w : World} {K : PySem.W.Frag} {mg : Str → Option Value} {base : Heap} {f : Addr} {fd : FuncData}
theorem ok_cell_at (T : Fun K "_law_cell_at" "_law_cell_at" s_law_cell_at f fd) (hm : ∀ x ∈ BB, mg x = none) : FnR P w K mg base CX0 1 f fd ["_law_script", "_law_k"] (spD K RCellAt) := by
  refine def0 T sc_law_cell_at (by decide) (fun as o h => by cases h; rfl) fun X E as o b h => ?_
  obtain ⟨rfl, rfl, rfl, rfl, rfl, nn, sc, fn, calm, room, pass, stk, frm⟩ := b
  haveI : Kc X _ _ _ _ := ⟨kx_law_cell_at sc nn fn hm⟩
  haveI : Rc X := ⟨_, room⟩
  haveI : Cc X := ⟨calm⟩
  cases h with
  | mk ns i hk =>
    dsimp only [zipD, n_law_cell_at]
    refine hss_cons ?_
    walk_at "gg"
    refine iteD (fun c => ?_) (fun c => ?_)
    · walk_at "gg"
      refine ⟨_, _, rfl, Ixd.scr (at_get hk c), ?_⟩
      exact rt_eq (by rw [cellAt, if_pos c])
    · walk_at "gg"
      exact rt_eq (by rw [cellAt, if_neg c])
end
/-! ### _law_program, _law_due, law of k08 -/
theorem small_of {v : Int} (h : -1000000000000 ≤ v ∧ v ≤ 1000000000000) : Small v := h
section
variable {P : Program} {w : World} {K : PySem.W.Frag} {mg : Str → Option Value} {base : Heap} {f : Addr} {fd : FuncData}
/-! ### _law_number of k06 -/
def num6 (c : Int) : Int := if c % 3 = 0 then c / 3 % 2000000000001 - 1000000000000
  else if c % 3 = 1 then (atI [(0 : Int), 1, -1, 10 ^ 6, -10 ^ 6, 10 ^ 12, -10 ^ 12, 2] (c / 3 % 8)).getD 0
  else c / 3 % 41 - 20
inductive RNumber : List Dat → Oc → Prop
  | mk (c : Int) : RNumber [.int c] (.val (.int (num6 c)))
theorem ok_number (T : Fun K "_law_number" "_law_number" s_law_number f fd) (hm : ∀ x ∈ BB, mg x = none) : FnR P w K mg base CX0 1 f fd ["_law_cell"] (spD K RNumber) := by
  refine def0 T sc_law_number (by decide) (fun as o h => by cases h; rfl) fun X E as o b h => ?_
  obtain ⟨rfl, rfl, rfl, rfl, rfl, nn, sc, fn, calm, room, pass, stk, frm⟩ := b
  haveI : Kc X _ _ _ _ := ⟨kx_law_number sc nn fn hm⟩
  haveI : Rc X := ⟨_, room⟩
  haveI : Cc X := ⟨calm⟩
  cases h with
  | mk c =>
    dsimp only [zipD, n_law_number]
    refine hss_cons ?_
    walk_at "gg"
    refine iteD (fun h => ?_) (fun h => ?_)
    · walk_at "gg"
      exact rt_eq (by rw [num6, if_pos h])
    walk_at "gg"
    refine iteD (fun h1 => ?_) (fun h1 => ?_)
    · walk_at "gg"
      have h8 : c / 3 % 8 = 0 ∨ c / 3 % 8 = 1 ∨ c / 3 % 8 = 2 ∨ c / 3 % 8 = 3 ∨ c / 3 % 8 = 4 ∨ c / 3 % 8 = 5 ∨ c / 3 % 8 = 6 ∨ c / 3 % 8 = 7 := by omega
      have hn : num6 c = (atI [(0 : Int), 1, -1, 10 ^ 6, -10 ^ 6, 10 ^ 12, -10 ^ 12, 2] (c / 3 % 8)).getD 0 := by rw [num6, if_neg h, if_pos h1]
      rcases h8 with e | e | e | e | e | e | e | e
      all_goals
        rw [e] at hn ⊢
        walk_at "gg"
        exact rt_eq (by rw [hn]; exact congrArg Dat.int (by decide +kernel))
    · walk_at "gg"
      exact rt_eq (by rw [num6, if_neg h, if_neg h1])
end
/-! ### _law_deed of k06: numbers, or words of refusals -/
def dueD : Except Ex Int → Dat
  | .ok v => .int v
  | .error e => .str (exW e)
inductive RDeed : List Dat → Oc → Prop
  | mk (w : Deed) (u v : Int) (hu : Small u) (hv : Small v) : RDeed [.str w.str, .int u, .int v] (.val (dueD (reckon w u v)))
theorem nd3 : ([.inr "sum", .inr "less", .inr "times"] : List Ky).Nodup := by decide +kernel
theorem lim_abs {z : Int} (h : 10 ^ 12 < (if z < 0 then -z else z)) : lim z = .error .great := by
  rw [lim, if_pos]
  unfold most
  split at h <;> omega
theorem lim_abs' {z : Int} (h : ¬ 10 ^ 12 < (if z < 0 then -z else z)) : lim z = .ok z := by
  rw [lim, if_neg]
  unfold most
  split at h <;> omega
section
variable {P : Program} {w : World} {K : PySem.W.Frag} {mg : Str → Option Value} {base : Heap} {f : Addr} {fd : FuncData}
theorem ok_deed (T : Fun K "_law_deed" "_law_deed" s_law_deed f fd) (hm : ∀ x ∈ BB, mg x = none) : FnR P w K mg base CX0 1 f fd ["_law_word", "_law_one", "_law_other"] (spD K RDeed) := by
  refine def0 T sc_law_deed (by decide) (fun as o h => by cases h; rfl) fun X E as o b h => ?_
  obtain ⟨rfl, rfl, rfl, rfl, rfl, nn, sc, fn, calm, room, pass, stk, frm⟩ := b
  have kx := kx_law_deed sc nn fn hm
  haveI : Kc X _ _ _ _ := ⟨kx⟩
  haveI : Rc X := ⟨_, room⟩
  haveI : Cc X := ⟨calm⟩
  cases h with
  | mk w u v hu hv =>
        dsimp only [zipD, n_law_deed]
        refine hss_cons ?_
        unfold Small most at hu hv
        have tail : ∀ z : Int, reckon w u v = lim z → 10 ^ 12 < (if z < 0 then -z else z) → dueD (reckon w u v) = .str "great" := fun z h1 h2 => by rw [h1, lim_abs h2]; rfl
        have tail' : ∀ z : Int, reckon w u v = lim z → ¬ 10 ^ 12 < (if z < 0 then -z else z) → dueD (reckon w u v) = .int z := fun z h1 h2 => by rw [h1, lim_abs' h2]; rfl
        cases w with
        | below =>
          rw [Deed.str]
          walk_at "gg"
          exact rt_eq' (by rw [reckon]; by_cases h : u < v <;> simp [h, dueD])
        | part =>
          rw [Deed.str]
          walk_at "gg"
          refine iteD (fun h => ?_) (fun h => ?_)
          · walk_at "gg"
            exact rt_eq' (by rw [reckon, if_pos h]; rfl)
          · walk_at "gg"
            refine ⟨⟨h, by omega⟩, rt_eq' (by rw [reckon, if_neg h]; rfl)⟩
        | sum =>
          rw [Deed.str]
          walk_at "gg"
          intro p
          walk_at "gg"
          refine ix_dctM (j := 0) rfl (by rw [mergeD_nd (by exact nd3), List.nil_append, valD_hit]) ?_
          walk_at "gg"
          refine iteD (fun h => ?_) (fun h => ?_)
          · walk_at "gg"
            exact rt_eq (tail _ rfl h).symm
          · walk_at "gg"
            exact rt_eq (tail' _ rfl h).symm
        | less =>
          rw [Deed.str]
          walk_at "gg"
          intro p
          walk_at "gg"
          refine ix_dctM (j := 0) rfl (by rw [mergeD_nd (by exact nd3), List.nil_append, valD_next inr_ne, valD_hit]) ?_
          walk_at "gg"
          refine iteD (fun h => ?_) (fun h => ?_)
          · walk_at "gg"
            exact rt_eq (tail _ rfl h).symm
          · walk_at "gg"
            exact rt_eq (tail' _ rfl h).symm
        | times =>
          rw [Deed.str]
          walk_at "gg"
          intro p
          walk_at "gg"
          refine ix_dctM (j := 0) rfl (by rw [mergeD_nd (by exact nd3), List.nil_append, valD_next inr_ne, valD_next inr_ne, valD_hit]) ?_
          walk_at "gg"
          refine iteD (fun h => ?_) (fun h => ?_)
          · walk_at "gg"
            exact rt_eq (tail _ rfl h).symm
          · walk_at "gg"
            exact rt_eq (tail' _ rfl h).symm
end
/-! ### the law's state as a dict -/
abbrev st6 (v : DV) (sl : Addr) (m : Nat) : List (Ky × DV) := [(.inr "stack", v), (.inr "slots", .m sl), (.inr "made", .d (.int m))]
abbrev stk6 (t : List Int) : DV := .d (.lst (t.reverse.map Dat.int))
theorem ixM_dct {M : Mem} {p : Addr} {i : Nat} {kvs : List (Ky × DV)} {y d : DV} {key : Ky} {k : DV → Prop} [at_ : AtM M p i (.dct kvs)] (hk : KD y key) (e : valD kvs key = some d) (h : k d) : IxA M (.m p) y k := .inr ⟨kvs, key, d, .mu at_.h, hk, e, h⟩
section
variable {M : Mem} {p sl : Addr} {i m : Nat} {v : DV} {k : DV → Prop} {km : Mem → Prop}
theorem st6_stack : valD (st6 v sl m) (.inr "stack") = some v := rfl
theorem st6_slots : valD (st6 v sl m) (.inr "slots") = some (.m sl) := rfl
theorem st6_made : valD (st6 v sl m) (.inr "made") = some (.d (.int m)) := rfl
theorem st6_put_stack {v' : DV} : putKD (st6 v sl m) (.inr "stack") v' = st6 v' sl m := rfl
theorem st6_put_made {m' : Nat} : putKD (st6 v sl m) (.inr "made") (.d (.int m')) = st6 v sl m' := rfl
instance (priority := high) [at_ : AtM M p i (.dct (st6 v sl m))] : Step (IxA M (.m p) (.d (.str "stack")) k) (k v) := ⟨ixM_dct (.str _) st6_stack⟩
instance (priority := high) [at_ : AtM M p i (.dct (st6 v sl m))] : Step (IxA M (.m p) (.d (.str "slots")) k) (k (.m sl)) := ⟨ixM_dct (.str _) st6_slots⟩
instance (priority := high) [at_ : AtM M p i (.dct (st6 v sl m))] : Step (IxA M (.m p) (.d (.str "made")) k) (k (.d (.int m))) := ⟨ixM_dct (.str _) st6_made⟩
instance (priority := high) {v' : DV} [at_ : AtM M p i (.dct (st6 v sl m))] : Step (PutA M (.m p) (.d (.str "stack")) v' km) (SetP M i (p, .dct (st6 v' sl m)) km) :=
  ⟨fun q => .inr ⟨p, i, _, .inr "stack", rfl, at_.h, .str _, by show 3 < sizeLine; decide, by rw [st6_put_stack]; exact q⟩⟩
instance (priority := high) [at_ : AtM M p i (.dct (st6 v sl m))] : Step (PutA M (.m p) (.d (.str "made")) (.d (.int ((m : Int) + 1))) km) (SetP M i (p, .dct (st6 v sl (m + 1))) km) :=
  ⟨fun q => .inr ⟨p, i, _, .inr "made", rfl, at_.h, .str _, by show 3 < sizeLine; decide, q⟩⟩
end
/-! ### _law_called -/
def PCalled : PreG := fun M as rt ex => ∃ (rA slA sA : Addr) (mr ms : MO) (v : DV) (m : Nat) (x y fuel : Int), M = [(rA, mr), (slA, ms), (sA, .dct (st6 v slA m))] ∧ as = [.d (.lst [.int x, .int y]), .m sA, .d (.int fuel)] ∧ Small x ∧ Small y ∧
  ((m : Int) = fuel → rt (.d (.str "dry")) M) ∧ (¬ (m : Int) = fuel → rt (.d (dueD (sq6 x y))) [(rA, mr), (slA, ms), (sA, .dct (st6 v slA (m + 1)))])
instance {v : Int} : IsC (dueD (.ok v)) "str" false := ⟨_, .int v, by decide +kernel⟩
section
variable {P : Program} {w : World} {K : PySem.W.Frag} {mg : Str → Option Value} {base : Heap} {f : Addr} {fd : FuncData}
theorem ok_called (T : Fun K "_law_called" "_law_called" s_law_called f fd) (hm : ∀ x ∈ BB, mg x = none) (D1 : Def P w K mg base CX0 1 "_law_deed" ["_law_word", "_law_one", "_law_other"] (spD K RDeed)) : FnR P w K mg base CX0 2 f fd ["_law_numbers", "_law_state", "_law_fuel"] (spG K PCalled) := by
  refine defG0 T sc_law_called (by decide) (fun M as rt ex ⟨rA, slA, sA, mr, ms, v, m, x, y, fuel, _, e, _⟩ => by rw [e]; rfl) fun X E M as rt ex b hp => ?_
  obtain ⟨rfl, rfl, rfl, rfl, rfl, nn, sc, fn, calm, room, pass, stk, frm⟩ := b
  obtain ⟨rA, slA, sA, mr, ms, v, m, x, y, fuel, rfl, rfl, sx, sy, h1, h2⟩ := hp
  have kx := kx_law_called sc nn fn hm
  haveI : Kc X _ _ _ _ := ⟨kx⟩
  haveI : Rc X := ⟨_, room⟩
  haveI : Cc X := ⟨calm⟩
  haveI : ∀ W, CallC X W "_law_deed" RDeed := fun W => callC D1 room lets0 kx (by repeat constructor) (by decide)
  dsimp only [zipV, n_law_called]
  refine hss_cons ?_
  walk_at "gg"
  refine iteD (fun h => ?_) (fun h => ?_)
  · walk_at "gg"
    exact ⟨_, .refl _, h1 h⟩
  have h2 := h2 h
  walk_at "gg"
  refine relP_of (RDeed.mk .less x y sx sy) ?_
  rw [sq6] at h2
  cases hd : reckon .less x y with
  | error e =>
    rw [hd] at h2
    rw [dueD]
    walk_at "gg"
    exact ⟨_, .refl _, h2⟩
  | ok d =>
    have sd : Small d := by
      obtain ⟨rfl, s⟩ := lim_ok hd
      exact s
    rw [hd] at h2
    rw [dueD]
    walk_at "gg"
    refine relP_of (RDeed.mk .times d d sd sd) ?_
    walk_at "gg"
    exact ⟨_, .refl _, h2⟩
end
/-! ### the law's rows and state -/
def Row.word : Row → Str
  | .push _ => "push"
  | .load _ => "load"
  | .keep _ => "keep"
  | .dod _ => "do"
  | .unless _ => "unless"
  | .skip _ => "skip"
  | .call _ _ _ => "call"
  | .back => "back"
abbrev rows6 (R : List R6) : List DV := (R.map R6.dat).map DV.d
abbrev mem6 (rA slA sA : Addr) (R : List R6) (t sl : List Int) (m : Nat) : Mem := [(rA, .lst (rows6 R)), (slA, .lst (intsV sl)), (sA, .dct (st6 (stk6 t) slA m))]
theorem rows6_len (R : List R6) : (rows6 R).length = R.length := by rw [List.length_map, List.length_map]
theorem rows6_app {R S : List R6} : rows6 R ++ rows6 S = rows6 (R ++ S) := by unfold rows6; rw [List.map_append, List.map_append]
theorem stk6_cons {t : List Int} {v : Int} : DV.d (.lst (t.reverse.map Dat.int ++ [.int v])) = stk6 (v :: t) := by unfold stk6; rw [List.reverse_cons, List.map_append]; rfl
theorem stk6_rev {t : List Int} {v : Int} : stk6 (v :: t) = DV.d (.lst (t.reverse.map Dat.int ++ [.int v])) := stk6_cons.symm
theorem sld_init {M : Mem} {l : List Dat} {x : Dat} {k : Dat → Prop} (h : k (.lst l)) : SldP M (.d (.lst (l ++ [x]))) none (some (-1)) k := by
  refine ⟨.lst (cutD (l ++ [x]) none (some (-((1 : Nat) : Int)))), .lst .dat, ?_⟩
  have e : cutD (l ++ [x]) none (some (-((1 : Nat) : Int))) = l := by
    unfold cutD
    rw [sIx_end _ _ _ (by decide), HT.sIx_none, List.drop_zero, List.length_append, List.length_singleton, Nat.sub_zero, Nat.add_sub_cancel, List.take_left']
    rfl
  rw [e]
  exact h
theorem ix_lastI {M : Mem} {l : List Dat} {x : Dat} {k : DV → Prop} (q : k (.d x)) : IxP M (.d (.lst (l ++ [x]))) (.d (.int (-1))) k := ixP_lst (atI_last _ _) q
structure Ok6 (vs : List Int) (n : Nat) (R : List R6) (t sl : List Int) : Prop where
  many : sl.length = vs.length + 3
  st : ∀ v ∈ t, Small v
  ss : ∀ v ∈ sl, Small v
  tl : t.length ≤ n + 1
  rl : R.length ≤ 16 + 4 * n
  push : ∀ i, R6.row (.push i) ∈ R → Small i
  nocall : ∀ r, R6.row r ∈ R → r.word ≠ "call"
section
variable {vs : List Int} {n : Nat} {R : List R6} {t sl : List Int}
theorem Ok6.more (o : Ok6 vs n R t sl) : Ok6 vs (n + 1) R t sl := ⟨o.many, o.st, o.ss, by have := o.tl; omega, by have := o.rl; omega, o.push, o.nocall⟩
/-- rows put behind, and the stack and the slots as they are then -/
theorem Ok6.app {S : List R6} {t' sl' : List Int} (o : Ok6 vs n R t sl) (h1 : sl'.length = sl.length) (h2 : ∀ v ∈ t', Small v) (h3 : ∀ v ∈ sl', Small v) (h4 : t'.length ≤ t.length + 1) (h5 : S.length ≤ 4) (h6 : ∀ i, R6.row (.push i) ∈ S → Small i) (h7 : ∀ r, R6.row r ∈ S → r.word ≠ "call") : Ok6 vs (n + 1) (R ++ S) t' sl' :=
  ⟨h1.trans o.many, h2, h3, by have := o.tl; omega, by have := o.rl; rw [List.length_append]; omega, fun i hi => (List.mem_append.mp hi).elim (o.push i) (h6 i), fun r hr => (List.mem_append.mp hr).elim (o.nocall r) (h7 r)⟩
end
theorem w_load : (Str.ofString "load") ≠ "call" := by decide +kernel
theorem w_keep : (Str.ofString "keep") ≠ "call" := by decide +kernel
theorem w_skip : (Str.ofString "skip") ≠ "call" := by decide +kernel
theorem w_push : (Str.ofString "push") ≠ "call" := by decide +kernel
theorem w_unless : (Str.ofString "unless") ≠ "call" := by decide +kernel
theorem w_do : (Str.ofString "do") ≠ "call" := by decide +kernel
theorem w_back : (Str.ofString "back") ≠ "call" := by decide +kernel
theorem ixN_nat6 {n i : Nat} (h : i < n) : ixN n (i : Int) = some i := by
  unfold ixN
  rw [if_pos (by omega), if_pos (by omega), Int.toNat_natCast]
/-! ### _law_plain -/
def PPlain : PreG := fun M as rt ex => ∃ (rA slA sA : Addr) (vs : List Int) (n : Nat) (R : List R6) (t sl : List Int) (m : Nat) (kind rest fuel : Int),
  M = mem6 rA slA sA R t sl m ∧ as = [.m sA, .m rA, .d (.int kind), .d (.int rest)] ∧ 0 < kind ∧ kind < 5 ∧ n ≤ 1000 ∧ Ok6 vs n R t sl ∧ Reach6 fuel (start6 vs) R t sl m ∧
  ∀ R' t' sl', Ok6 vs (n + 1) R' t' sl' → Reach6 fuel (start6 vs) R' t' sl' m → rt (.d .non) (mem6 rA slA sA R' t' sl' m)
section
variable {P : Program} {w : World} {K : PySem.W.Frag} {mg : Str → Option Value} {base : Heap} {f : Addr} {fd : FuncData}
theorem ok_plain (T : Fun K "_law_plain" "_law_plain" s_law_plain f fd) (hm : ∀ x ∈ BB, mg x = none) : FnR P w K mg base CX0 1 f fd ["_law_state", "_law_rows", "_law_kind", "_law_rest"] (spG K PPlain) := by
  refine defG0 T sc_law_plain (by decide) (fun M as rt ex ⟨rA, slA, sA, vs, n, R, t, sl, m, kind, rest, fuel, _, e, _⟩ => by rw [e]; rfl) fun X E M as rt ex b hp => ?_
  obtain ⟨rfl, rfl, rfl, rfl, rfl, nn, sc, fn, calm, room, pass, stk, frm⟩ := b
  obtain ⟨rA, slA, sA, vs, n, R, t, sl, m, kind, rest, fuel, rfl, rfl, k0, k5, hn, ok, re, hp⟩ := hp
  have kx := kx_law_plain sc nn fn hm
  haveI : Kc X _ _ _ _ := ⟨kx⟩
  haveI : Rc X := ⟨_, room⟩
  haveI : Cc X := ⟨calm⟩
  have tl := ok.tl
  have rl := ok.rl
  have many := ok.many
  have hsl : (intsV sl).length = sl.length := by rw [List.length_map, List.length_map]
  have hrl := rows6_len R
  dsimp only [zipV, n_law_plain]
  refine hss_cons ?_
  walk_at "gg"
  rw [hsl]
  have a0 := Int.emod_nonneg rest (show (sl.length : Int) ≠ 0 by omega)
  have a1 := Int.emod_lt_of_pos rest (show (0 : Int) < sl.length by omega)
  have ea : rest % (sl.length : Int) = ((rest % (sl.length : Int)).toNat : Int) := by omega
  have alt : (rest % (sl.length : Int)).toNat < sl.length := by omega
  generalize (rest % (sl.length : Int)).toNat = at_ at ea alt
  rw [ea]
  have hsz : (rows6 R).length < sizeLine := by rw [hrl, sizeLine_eq]; omega
  have hstl : (t.reverse.map Dat.int).length = t.length := by rw [List.length_map, List.length_reverse]
  obtain ⟨v, hv⟩ : ∃ v, sl[at_]? = some v := ⟨_, List.getElem?_eq_getElem alt⟩
  have sv := ok.ss v (List.mem_of_getElem? hv)
  have hat : atI (intsV sl) (at_ : Int) = some (.d (.int v)) := atI_nat (by rw [List.getElem?_map, List.getElem?_map, hv]; rfl)
  have hk : kind = 1 ∨ kind = 2 ∨ kind = 3 ∨ kind = 4 := by omega
  rcases hk with rfl | rfl | rfl | rfl
  · refine iteT rfl ?_
    walk_at "gg"
    refine .inl ?_
    refine ⟨_, _, rfl, .mu (j := 1) rfl hat, ?_⟩
    walk_at "gg"
    refine ⟨by rw [hstl, sizeLine_eq, List.length_singleton]; omega, ?_⟩
    walk_at "gg"
    refine iteF (by decide) ?_
    walk_at "gg"
    refine iteF (by decide) ?_
    walk_at "gg"
    refine iteF (by decide) ?_
    walk_at "gg"
    have e : rows6 R ++ [DV.d (Dat.tup [.str "load", .int (at_ : Int)])] = rows6 (R ++ [.row (.load at_)]) := rows6_app (S := [.row (.load at_)])
    rw [e, stk6_cons]
    refine ⟨_, .refl _, hp _ _ _ (ok.app rfl (fun u hu => (List.mem_cons.mp hu).elim (fun z => z ▸ sv) (ok.st u)) ok.ss (Nat.le_refl _) (by simp) (fun i hi => by simp at hi) fun r hr => by simp at hr; subst hr; exact w_load) (reach_load re (by omega) hv)⟩
  · refine iteF (by decide) ?_
    walk_at "gg"
    refine iteT rfl ?_
    walk_at "gg"
    rw [hstl]
    cases t with
    | nil =>
      refine iteF (by simp) ?_
      walk_at "gg"
      refine iteF (by decide) ?_
      walk_at "gg"
      refine iteF (by decide) ?_
      walk_at "gg"
      exact ⟨_, .refl _, hp _ _ _ ok.more re⟩
    | cons x t =>
      refine iteT (by rw [List.length_cons]; omega) ?_
      unfold mem6
      rw [stk6_rev]
      walk_at "gg"
      refine .inl ⟨slA, 1, intsV sl, (at_ : Int), at_, rfl, rfl, rfl, ixN_nat6 (by rw [hsl]; exact alt), ?_⟩
      dsimp only [List.set_cons_succ, List.set_cons_zero]
      walk_at "gg"
      refine sld_init ?_
      walk_at "gg"
      refine iteF (by decide) ?_
      walk_at "gg"
      refine iteF (by decide) ?_
      walk_at "gg"
      have e : rows6 R ++ [DV.d (Dat.tup [.str "keep", .int (at_ : Int)])] = rows6 (R ++ [.row (.keep at_)]) := rows6_app (S := [.row (.keep at_)])
      have e2 : (intsV sl).set at_ (.d (.int x)) = intsV (sl.set at_ x) := by unfold intsV; rw [List.map_set, List.map_set]
      rw [e, e2]
      refine ⟨_, .refl _, hp _ _ _ (ok.app (List.length_set ..) (fun u hu => ok.st u (List.mem_cons_of_mem _ hu)) (fun u hu => (List.mem_or_eq_of_mem_set hu).elim (ok.ss u) fun z => z ▸ ok.st x (by simp)) (by rw [List.length_cons]; omega) (by simp) (fun i hi => by simp at hi) fun r hr => by simp at hr; subst hr; exact w_keep) (reach_keep re rfl alt)⟩
  · refine iteF (by decide) ?_
    walk_at "gg"
    refine iteF (by decide) ?_
    walk_at "gg"
    refine iteT rfl ?_
    walk_at "gg"
    refine ⟨by rw [List.length_append, List.length_singleton, hrl, sizeLine_eq]; omega, ?_⟩
    walk_at "gg"
    refine iteF (by decide) ?_
    walk_at "gg"
    have e : rows6 R ++ [DV.d (Dat.tup [.str "skip", .int (((rows6 R).length : Nat) + 2 : Int)])] ++ [DV.d (Dat.tup [.str "push", .int (rest % 9)])] = rows6 (R ++ [.row (.skip (R.length + 2)), .row (.push (rest % 9))]) := by
      rw [List.append_assoc, hrl]; exact rows6_app (S := [.row (.skip (R.length + 2)), .row (.push (rest % 9))])
    rw [e]
    refine ⟨_, .refl _, hp _ _ _ (ok.app rfl ok.st ok.ss (by omega) (by simp) (fun i hi => by simp at hi; subst hi; exact small_of (by omega)) fun r hr => by simp at hr; rcases hr with rfl | rfl <;> first | exact w_skip | exact w_push) (reach_skip re (by omega))⟩
  · refine iteF (by decide) ?_
    walk_at "gg"
    refine iteF (by decide) ?_
    walk_at "gg"
    refine iteF (by decide) ?_
    walk_at "gg"
    refine iteT rfl ?_
    walk_at "gg"
    rw [hstl]
    cases t with
    | nil =>
      refine iteF (by simp) ?_
      walk_at "gg"
      exact ⟨_, .refl _, hp _ _ _ ok.more re⟩
    | cons x t =>
      refine iteT (by rw [List.length_cons]; omega) ?_
      unfold mem6
      rw [stk6_rev]
      walk_at "gg"
      refine ⟨by simp only [List.length_append, List.length_singleton, hrl, sizeLine_eq]; omega, ?_⟩
      walk_at "gg"
      refine ⟨by simp only [List.length_append, List.length_singleton, hrl, sizeLine_eq]; omega, ?_⟩
      walk_at "gg"
      refine ⟨by simp only [List.length_append, List.length_singleton, hrl, sizeLine_eq]; omega, ?_⟩
      walk_at "gg"
      have l4 : ((rows6 R ++ [DV.d (Dat.tup [.str "unless", .int (((rows6 R).length : Nat) + 3 : Int)])] ++ [DV.d (Dat.tup [.str "push", .int (rest % 1000)])]).length : Nat) = R.length + 2 := by simp only [List.length_append, List.length_singleton, hrl]
      rw [l4]
      have e : ∀ q : Nat, q = R.length + 4 → rows6 R ++ [DV.d (Dat.tup [.str "unless", .int (((rows6 R).length : Nat) + 3 : Int)])] ++ [DV.d (Dat.tup [.str "push", .int (rest % 1000)])] ++ [DV.d (Dat.tup [.str "skip", .int (((R.length + 2 : Nat) : Int) + 2)])] ++ [DV.d (Dat.tup [.str "push", .int (rest / 1000 % 1000)])] =
          rows6 (R ++ [.row (.unless (R.length + 3)), .row (.push (rest % 1000)), .row (.skip q), .row (.push (rest / 1000 % 1000))]) := fun q hq => by
        rw [List.append_assoc, List.append_assoc, List.append_assoc, hrl, hq]
        exact rows6_app (S := [.row (.unless (R.length + 3)), .row (.push (rest % 1000)), .row (.skip (R.length + 4)), .row (.push (rest / 1000 % 1000))])
      rw [e _ rfl]
      have lt : (t.reverse.map Dat.int).length = t.length := by rw [List.length_map, List.length_reverse]
      rw [List.length_cons] at tl
      have fin : ∀ z : Int, z = (if x = 0 then rest / 1000 % 1000 else rest % 1000) → rt (.d .non) (mem6 rA slA sA (R ++ [.row (.unless (R.length + 3)), .row (.push (rest % 1000)), .row (.skip (R.length + 4)), .row (.push (rest / 1000 % 1000))]) (z :: t) sl m) := fun z hz => by
        subst hz
        refine hp _ _ _ (ok.app rfl (fun u hu => (List.mem_cons.mp hu).elim (fun z => z ▸ (by split <;> exact small_of (by omega))) fun hu => ok.st u (List.mem_cons_of_mem _ hu)) ok.ss (by rw [List.length_cons, List.length_cons]; omega) (by simp) (fun i hi => by simp at hi; rcases hi with rfl | rfl <;> exact small_of (by omega)) fun r hr => by simp at hr; rcases hr with rfl | rfl | rfl | rfl <;> first | exact w_unless | exact w_push | exact w_skip) (reach_unless re (by rw [List.length_cons]; omega) rfl)
      refine iteD (fun h => ?_) (fun h => ?_)
      · walk_at "gg"
        refine sld_init ?_
        walk_at "gg"
        refine ⟨by rw [lt, sizeLine_eq, List.length_singleton]; omega, ?_⟩
        walk_at "gg"
        rw [stk6_cons]
        exact ⟨_, .refl _, fin _ (by rw [if_pos h])⟩
      · walk_at "gg"
        refine sld_init ?_
        walk_at "gg"
        refine ⟨by rw [lt, sizeLine_eq, List.length_singleton]; omega, ?_⟩
        walk_at "gg"
        rw [stk6_cons]
        exact ⟨_, .refl _, fin _ (by rw [if_neg h])⟩
end
/-! ### a < b < c -/
section
variable {X : Cx} {W : WX} {a b c : Expr} {ds : Slots} {M : Mem} {pos : Pos} {Xp : Value → Mem → Prop}
class LMk (b c : Expr) : Prop where
  h : lastMarks [.Lt, .Lt] [b, c] = false
instance {n : Str} {p q : Pos} {i : Const} {k : Nat} : LMk (.Name n p) (.Constant i k q) := ⟨rfl⟩
theorem we_chain {K : PySem.W.Frag} {r r' : R2} {Rd Rd' : DV → DV → Mem → (DV → Mem → Prop) → Prop} {ta tb tc : TE} {R : DV → Mem → Prop} (od : OD K r Rd) (od' : OD K r' Rd')
    (h : We K W ta ds M (fun x M1 => We K W tb ds M1 (fun y M2 => Rd x y M2 (fun z M3 => ∃ k, z = .d (.bl k) ∧ if k = true then We K W tc ds M3 (fun w M4 => Rd' y w M4 R) Xp else R (.d (.bl false)) M3)) Xp) Xp) : We K W (tChain r r' ta tb tc) ds M R Xp := by
  intro S F0 H0 F H σ I Q q x
  refine h S F0 H0 F H σ I _ (fun v F1 H1 M1 dv s1 I1 o1 g1 => ?_) x
  refine g1 S F0 H0 F1 H1 σ I1 _ (fun w F2 H2 M2 dw s2 I2 o2 g2 => ?_) (fun cls F2 H2 M2 s2 I2 g2 => x cls F2 H2 M2 (s1.trans s2) I2 g2)
  refine od S F0 H0 F2 H2 M2 σ ds dv dw v w _ _ I2 (o1.mono s2) o2 g2 (fun u F3 H3 M3 du s3 I3 o3 g3 => ?_)
  obtain ⟨k, rfl, g⟩ := g3
  cases o3
  refine ⟨k, rfl, ?_⟩
  cases k with
  | true =>
    rw [if_pos rfl] at g ⊢
    refine g S F0 H0 F3 H3 σ I3 _ (fun w' F4 H4 M4 dw' s4 I4 o4 g4 => ?_) (fun cls F4 H4 M4 s4 I4 g4 => x cls F4 H4 M4 (((s1.trans s2).trans s3).trans s4) I4 g4)
    exact od' S F0 H0 F4 H4 M4 σ ds dw dw' w w' R Q I4 ((o2.mono s3).mono s4) o4 g4 (fun u F5 H5 M5 du s5 I5 o5 g5 => q u F5 H5 M5 du ((((s1.trans s2).trans s3).trans s4).trans s5) I5 o5 g5)
  | false =>
    rw [if_neg (by decide)] at g ⊢
    exact q _ F3 H3 M3 (.d (.bl false)) ((s1.trans s2).trans s3) I3 (VOk.dat (.bl false)) g
theorem ht_ltlt {R : Bool → Mem → Prop} (h : HE X W a ds M (fun x M1 => HE X W b ds M1 (fun y M2 => I2 x y fun i j => if decide (i < j) = true then HE X W c ds M2 (fun z M3 => I2 y z fun j' k => R (decide (j' < k)) M3) Xp else R false M2) Xp) Xp)
    (hm : lastMarks [.Lt, .Lt] [b, c] = false := by with_unfolding_all rfl) : HT X W (.Compare a [.Lt, .Lt] [b, c] pos) ds M R Xp := by
  refine ht_of (pt_chain op_lt op_lt (pe_t X a) (pe_t X b) (pe_t X c) hm) fun n => wt_test ?_
  refine we_chain (od_I0 (g := fun i j => .bl (decide (i < j))) fun F i j => .bl _) (od_I0 (g := fun i j => .bl (decide (i < j))) fun F i j => .bl _) (we_imp (h n) fun x M1 g1 => we_imp (g1 n) fun y M2 g2 => ?_)
  obtain ⟨i, j, rfl, rfl, g⟩ := g2
  refine ⟨i, j, rfl, rfl, _, rfl, ?_⟩
  by_cases hij : i < j
  · rw [if_pos (decide_eq_true hij)] at g ⊢
    refine we_imp (g n) fun z M3 g3 => ?_
    obtain ⟨j', k, e, rfl, g3⟩ := g3
    cases e
    exact ⟨j, k, rfl, rfl, _, rfl, g3⟩
  · rw [if_neg (by simpa using hij)] at g ⊢
    exact ⟨_, rfl, g⟩
instance {R : Bool → Mem → Prop} [m : LMk b c] : Step (HT X W (.Compare a [.Lt, .Lt] [b, c] pos) ds M R Xp) (HE X W a ds M (fun x M1 => HE X W b ds M1 (fun y M2 => I2 x y fun i j => if decide (i < j) = true then HE X W c ds M2 (fun z M3 => I2 y z fun j' k => R (decide (j' < k)) M3) Xp else R false M2) Xp) Xp) := ⟨fun h => ht_ltlt h m.h⟩
end
/-! ### is None as a test -/
section
variable {X : Cx} {W : WX} {a : Expr} {ds : Slots} {M : Mem} {pos p2 : Pos} {Xp : Value → Mem → Prop}
theorem ht_isN {j : Nat} {R : Bool → Mem → Prop} (h : HE X W a ds M (fun x M1 => D1 x fun d => R (nonB d) M1) Xp) : HT X W (.Compare a [.Is] [.Constant .none j p2] pos) ds M R Xp :=
  ht_of (pt_cmp (pc_isN (pe_t X a))) fun n S F0 H0 F H σ I Q q x => h n S F0 H0 F H σ I _ (fun v F1 H1 M1 dv s1 I1 o1 g1 => by
    obtain ⟨d, rfl, g⟩ := g1
    refine ⟨_, rfl, q _ F1 H1 M1 s1 I1 ?_⟩
    cases o1 <;> exact g) x
instance {j : Nat} {R : Bool → Mem → Prop} : Step (HT X W (.Compare a [.Is] [.Constant .none j p2] pos) ds M R Xp) (HE X W a ds M (fun x M1 => D1 x fun d => R (nonB d) M1) Xp) := ⟨ht_isN⟩
instance {d : Dat} {b : Bool} {A B : Prop} [n : NonC d b] : Step (if nonB d = true then A else B) (if b = true then A else B) := ⟨fun h => by rw [n.h]; exact h⟩
end
/-! ### _law_put -/
theorem num6_small (c : Int) : Small (num6 c) := by
  unfold num6
  split
  · exact small_of (by omega)
  split
  · have h8 : c / 3 % 8 = 0 ∨ c / 3 % 8 = 1 ∨ c / 3 % 8 = 2 ∨ c / 3 % 8 = 3 ∨ c / 3 % 8 = 4 ∨ c / 3 % 8 = 5 ∨ c / 3 % 8 = 6 ∨ c / 3 % 8 = 7 := by omega
    rcases h8 with e | e | e | e | e | e | e | e <;> (rw [e]; exact small_of (by decide +kernel))
  · exact small_of (by omega)
theorem exW_ne {e : Ex} (h : Goes e) : exW e ≠ Str.ofString "" := by
  rcases h with rfl | rfl | rfl | rfl <;> decide +kernel
theorem reck_small {w : Deed} {a b z : Int} (sa : Small a) (h : reckon w a b = .ok z) : Small z := by
  cases w with
  | below =>
    rw [reckon] at h
    cases h
    split <;> exact small_of (by decide)
  | part =>
    rw [reckon] at h
    split at h
    · cases h
    · rename_i hb
      cases h
      exact small_fdiv sa hb
  | sum => obtain ⟨rfl, s⟩ := lim_ok h; exact s
  | less => obtain ⟨rfl, s⟩ := lim_ok h; exact s
  | times => obtain ⟨rfl, s⟩ := lim_ok h; exact s
def PPut6 : PreG := fun M as rt ex => ∃ (rA slA sA : Addr) (vs : List Int) (n : Nat) (R : List R6) (t sl : List Int) (m : Nat) (c fuel : Int),
  M = mem6 rA slA sA R t sl m ∧ as = [.m sA, .m rA, .d (.int c), .d (.int fuel)] ∧ n ≤ 1000 ∧ Ok6 vs n R t sl ∧ Reach6 fuel (start6 vs) R t sl m ∧
  (∀ R' t' sl' m', Ok6 vs (n + 1) R' t' sl' → Reach6 fuel (start6 vs) R' t' sl' m' → rt (.d (.str "")) (mem6 rA slA sA R' t' sl' m')) ∧
  (∀ R' e m', Goes e → Ok6 vs (n + 1) R' t sl → Fail6 fuel (start6 vs) R' e m' → rt (.d (.str (exW e))) (mem6 rA slA sA R' t sl m'))
section
variable {P : Program} {w : World} {K : PySem.W.Frag} {mg : Str → Option Value} {base : Heap} {f : Addr} {fd : FuncData}
local macro_rules | `(tactic| walk_at "hook") => `(tactic| first | with_reducible refine relP_of (RNumber.mk _) ?_)
theorem ok_put6 (T : Fun K "_law_put" "_law_put" s_law_put f fd) (hm : ∀ x ∈ BB, mg x = none) (D1 : Def P w K mg base CX0 1 "_law_plain" ["_law_state", "_law_rows", "_law_kind", "_law_rest"] (spG K PPlain)) (D2 : Def P w K mg base CX0 1 "_law_deed" ["_law_word", "_law_one", "_law_other"] (spD K RDeed))
    (D3 : Def P w K mg base CX0 2 "_law_called" ["_law_numbers", "_law_state", "_law_fuel"] (spG K PCalled)) (D4 : Def P w K mg base CX0 1 "_law_number" ["_law_cell"] (spD K RNumber)) :
    FnR P w K mg base CX0 3 f fd ["_law_state", "_law_rows", "_law_cell", "_law_fuel"] (spG K PPut6) := by
  refine defG0 T sc_law_put (by decide) (fun M as rt ex ⟨rA, slA, sA, vs, n, R, t, sl, m, c, fuel, _, e, _⟩ => by rw [e]; rfl) fun X E M as rt ex b hp => ?_
  obtain ⟨rfl, rfl, rfl, rfl, rfl, nn, sc, fn, calm, room, pass, stk, frm⟩ := b
  obtain ⟨rA, slA, sA, vs, n, R, t, sl, m, c, fuel, rfl, rfl, hn, ok, re, hp, hq⟩ := hp
  have kx := kx_law_put sc nn fn hm
  haveI : Kc X _ _ _ _ := ⟨kx⟩
  haveI : Rc X := ⟨_, room⟩
  haveI : Cc X := ⟨calm⟩
  haveI : ∀ W, CallG X W "_law_plain" PPlain := fun W => ⟨⟨_, _, _, D1, room.mono (by decide), lets0⟩⟩
  haveI : ∀ W, CallC X W "_law_deed" RDeed := fun W => callC D2 room lets0 kx (by repeat constructor) (by decide)
  haveI : ∀ W, CallG X W "_law_called" PCalled := fun W => ⟨⟨_, _, _, D3, room.mono (by decide), lets0⟩⟩
  haveI : ∀ W, CallC X W "_law_number" RNumber := fun W => callC D4 room lets0 kx (by repeat constructor) (by decide)
  have tl := ok.tl
  have rl := ok.rl
  have many := ok.many
  have hrl := rows6_len R
  have hsz : (rows6 R).length < sizeLine := by rw [hrl, sizeLine_eq]; omega
  have hstl : (t.reverse.map Dat.int).length = t.length := by rw [List.length_map, List.length_reverse]
  have k0 := Int.emod_nonneg c (show (12 : Int) ≠ 0 by decide)
  have k1 := Int.emod_lt_of_pos c (show (0 : Int) < 12 by decide)
  dsimp only [zipV, n_law_put]
  refine hss_cons ?_
  walk_at "gg"
  generalize c % 12 = k at k0 k1
  generalize c / 12 = rest
  by_cases h1 : 0 < k ∧ k < 5
  · refine iteT h1.1 ?_
    walk_at "gg"
    refine iteT h1.2 ?_
    walk_at "gg"
    refine ⟨rA, slA, sA, vs, n, R, t, sl, m, k, rest, fuel, rfl, rfl, h1.1, h1.2, hn, ok, re, fun R' t' sl' ok' re' => ?_⟩
    walk_at "gg"
    refine iteF (by omega) ?_
    walk_at "gg"
    refine iteF (by omega) ?_
    walk_at "gg"
    refine iteF (by omega) ?_
    walk_at "gg"
    refine iteF (by omega) ?_
    walk_at "gg"
    exact ⟨_, .refl _, hp _ _ _ _ ok' re'⟩
  have skip1 : ∀ {A B : Prop}, B → A → (if decide (0 < k) = true then (if decide (k < 5) = true then A else B) else B) → True := fun _ _ _ => trivial
  have late : 5 ≤ k ∨ k = 0 := by omega
  by_cases h2 : 4 < k ∧ k < 10
  · refine iteT (by omega) ?_
    walk_at "gg"
    refine iteF (by omega) ?_
    walk_at "gg"
    refine iteT h2.1 ?_
    walk_at "gg"
    refine iteT h2.2 ?_
    walk_at "gg"
    rw [hstl]
    match t, tl, ok, re, hp, hq, hstl with
    | [], tl, ok, re, hp, hq, hstl =>
      refine iteF (by simp) ?_
      walk_at "gg"
      refine iteF (by omega) ?_
      walk_at "gg"
      refine iteF (by omega) ?_
      walk_at "gg"
      refine iteF (by omega) ?_
      walk_at "gg"
      exact ⟨_, .refl _, hp _ _ _ _ ok.more re⟩
    | [x], tl, ok, re, hp, hq, hstl =>
      refine iteF (by simp) ?_
      walk_at "gg"
      refine iteF (by omega) ?_
      walk_at "gg"
      refine iteF (by omega) ?_
      walk_at "gg"
      refine iteF (by omega) ?_
      walk_at "gg"
      exact ⟨_, .refl _, hp _ _ _ _ ok.more re⟩
    | y :: x :: t, tl, ok, re, hp, hq, hstl =>
      refine iteT (by simp only [List.length_cons]; omega) ?_
      walk_at "gg"
      obtain ⟨w, hw⟩ : ∃ w : Deed, atI [Dat.str "sum", .str "less", .str "times", .str "part", .str "below"] (k - 5) = some (.str w.str) := by
        have hk : k = 5 ∨ k = 6 ∨ k = 7 ∨ k = 8 ∨ k = 9 := by omega
        rcases hk with rfl | rfl | rfl | rfl | rfl
        · exact ⟨.sum, rfl⟩
        · exact ⟨.less, rfl⟩
        · exact ⟨.times, rfl⟩
        · exact ⟨.part, rfl⟩
        · exact ⟨.below, rfl⟩
      refine ixP_lst hw ?_
      have sy := ok.st y (by simp)
      have sx := ok.st x (by simp)
      have hl2 : ((t.reverse.map Dat.int ++ [Dat.int x, Dat.int y]).length : Int) - 2 = ((t.reverse.map Dat.int).length : Int) := by rw [List.length_append]; simp only [List.length_cons, List.length_nil]; omega
      have lt : (t.reverse.map Dat.int).length = t.length := by rw [List.length_map, List.length_reverse]
      have r2 : stk6 (y :: x :: t) = DV.d (.lst (t.reverse.map Dat.int ++ [.int x, .int y])) := by
        rw [stk6_rev, List.reverse_cons, List.map_append, List.append_assoc]; rfl
      have e : rows6 R ++ [DV.d (Dat.tup [.str "do", .str w.str])] = rows6 (R ++ [.row (.dod w)]) := rows6_app (S := [.row (.dod w)])
      have okS : ∀ t' : List Int, (∀ v ∈ t', Small v) → t'.length ≤ (y :: x :: t).length + 1 → Ok6 vs (n + 1) (R ++ [.row (.dod w)]) t' sl := fun t' h h2 => ok.app rfl h ok.ss h2 (by simp) (fun i hi => by simp at hi) fun r hr => by simp at hr; subst hr; exact w_do
      unfold mem6
      rw [r2]
      walk_at "gg"
      refine relP_of (RDeed.mk w x y sx sy) ?_
      cases hd : reckon w x y with
      | error er =>
        have ge := reckon_goes hd
        rw [dueD]
        walk_at "gg"
        refine iteF (by omega) ?_
        walk_at "gg"
        refine iteND (fun _ => ?_) (fun z => absurd z (exW_ne ge))
        walk_at "gg"
        rw [e, ← r2]
        exact ⟨_, .refl _, hq _ _ _ ge (okS _ ok.st (by omega)) (fail_do re rfl hd)⟩
      | ok z =>
        rw [dueD]
        walk_at "gg"
        refine iteF (by omega) ?_
        walk_at "gg"
        rw [hl2]
        refine sldP_to (by omega) ?_
        rw [Int.toNat_natCast, List.take_left' rfl]
        walk_at "gg"
        refine ⟨by rw [lt, sizeLine_eq, List.length_singleton]; simp only [List.length_cons] at tl; omega, ?_⟩
        walk_at "gg"
        rw [e, stk6_cons]
        exact ⟨_, .refl _, hp _ _ _ _ (okS _ (fun u hu => (List.mem_cons.mp hu).elim (fun q => q ▸ small_reckon sx hd) fun hu => ok.st u (by simp [hu])) (by simp only [List.length_cons]; omega)) (reach_do re rfl hd)⟩
  by_cases h3 : k = 10
  · refine iteT (by omega) ?_
    walk_at "gg"
    refine iteF (by omega) ?_
    walk_at "gg"
    refine iteT (by omega) ?_
    walk_at "gg"
    refine iteF (by omega) ?_
    walk_at "gg"
    refine iteT h3 ?_
    walk_at "gg"
    rw [hstl]
    by_cases ht : 1 < t.length
    · refine iteT (by omega) ?_
      walk_at "gg"
      obtain ⟨c1, hc, ec⟩ : ∃ c1 : Nat, (c1 = 1 ∨ c1 = 2) ∧ (2 - if decide (rest % 3 = 1) = true then (1 : Int) else 0) = (c1 : Int) := by
        by_cases h : rest % 3 = 1
        · exact ⟨1, .inl rfl, by rw [if_pos (decide_eq_true h)]; rfl⟩
        · exact ⟨2, .inr rfl, by rw [if_neg (by simpa using h)]; rfl⟩
      have eb : -1 - rest / 3 % 2 = -1 - (((rest / 3 % 2).toNat : Nat) : Int) := by omega
      have hb : (rest / 3 % 2).toNat = 0 ∨ (rest / 3 % 2).toNat = 1 := by omega
      have er : 3 + rest / 6 % 4 = (((3 + rest / 6 % 4).toNat : Nat) : Int) := by omega
      have hr : 3 ≤ (3 + rest / 6 % 4).toNat ∧ (3 + rest / 6 % 4).toNat ≤ 1000 := by omega
      generalize (rest / 3 % 2).toNat = b1 at eb hb
      generalize (3 + rest / 6 % 4).toNat = ro at er hr
      rw [ec, eb, er]
      obtain ⟨x, y, z, hz, hxy⟩ := call_slots (t := t) (c := c1) (room := ro) hc (by omega) hr.1
      have sxy : Small x ∧ Small y := by
        have hmem : ∀ u ∈ [x, y], Small u := fun u hu => by
          rw [← hxy] at hu
          rcases List.mem_append.mp (List.mem_of_mem_take hu) with h | h
          · exact ok.st u (List.mem_of_mem_take (List.mem_reverse.mp h))
          · rw [List.mem_singleton.mp h]; exact small_of (by decide)
        exact ⟨hmem x (by simp), hmem y (by simp)⟩
      have e : rows6 R ++ [DV.d (Dat.tup [.str "call", .int (-1 - (b1 : Int)), .int c1, .int ro])] = rows6 (R ++ [.call b1 c1 ro]) := rows6_app (S := [.call b1 c1 ro])
      have okS : ∀ t' : List Int, (∀ v ∈ t', Small v) → t'.length ≤ t.length + 1 → Ok6 vs (n + 1) (R ++ [.call b1 c1 ro]) t' sl := fun t' h h2 => ok.app rfl h ok.ss h2 (by simp) (fun i hi => by simp at hi) fun r hr => by simp at hr
      rw [e]
      have hlen : ((t.reverse.map Dat.int).length : Int) - (c1 : Int) = ((t.length - c1 : Nat) : Int) := by rw [hstl]; omega
      rw [hlen]
      refine sldP_from (by omega) ?_
      rw [Int.toNat_natCast, ← List.map_drop, ← List.length_reverse (as := t)]
      have ed : t.reverse.drop (t.reverse.length - c1) = (t.take c1).reverse := by rw [List.length_reverse, List.reverse_take]
      rw [ed]
      walk_at "gg"
      refine ⟨by rw [List.length_map, List.length_reverse, List.length_take, sizeLine_eq, List.length_singleton]; omega, ?_⟩
      walk_at "gg"
      have e3 : ((t.take c1).reverse.map Dat.int ++ [Dat.int 0]).take 2 = [.int x, .int y] := by
        have q := congrArg (List.map Dat.int) hxy
        rw [List.map_take, List.map_append] at q
        exact q
      rw [e3]
      have ne : ∀ er : Ex, Goes er → exW er ≠ Str.ofString "" := fun er => exW_ne
      refine ⟨rA, slA, sA, _, _, stk6 t, m, x, y, fuel, rfl, rfl, sxy.1, sxy.2, fun hf => ?_, fun hf => ?_⟩
      · walk_at "gg"
        refine iteND (fun _ => ?_) (fun z => absurd z (exW_ne (e := .dry) (.inr (.inr (.inr rfl)))))
        walk_at "gg"
        exact ⟨_, .refl _, hq _ .dry _ (.inr (.inr (.inr rfl))) (okS _ ok.st (by omega)) (fail_dry re hr.2 (by omega) hf)⟩
      · cases hv : sq6 x y with
        | error er =>
          have ge : Goes er := by
            rw [sq6] at hv
            cases hd : reckon .less x y with
            | error e2 => rw [hd] at hv; cases hv; exact reckon_goes hd
            | ok d => rw [hd] at hv; exact reckon_goes hv
          rw [dueD]
          walk_at "gg"
          refine iteND (fun _ => ?_) (fun z => absurd z (exW_ne ge))
          walk_at "gg"
          exact ⟨_, .refl _, hq _ _ _ ge (okS _ ok.st (by omega)) (fail_call re (by omega) hb hr.2 (by omega) hz hf hv)⟩
        | ok v =>
          have sv : Small v := by
            rw [sq6] at hv
            cases hd : reckon .less x y with
            | error e2 => rw [hd] at hv; cases hv
            | ok d => rw [hd] at hv; exact small_reckon (small_reckon sxy.1 hd) hv
          rw [dueD]
          walk_at "gg"
          rw [hlen]
          refine sldP_to (by omega) ?_
          rw [Int.toNat_natCast, ← List.map_take]
          have et : t.reverse.take (t.length - c1) = (t.drop c1).reverse := by rw [List.reverse_drop]
          rw [et]
          walk_at "gg"
          refine ⟨by rw [List.length_map, List.length_reverse, List.length_drop, sizeLine_eq, List.length_singleton]; omega, ?_⟩
          walk_at "gg"
          rw [stk6_cons]
          exact ⟨_, .refl _, hp _ _ _ _ (okS _ (fun u hu => (List.mem_cons.mp hu).elim (fun q => q ▸ sv) fun hu => ok.st u (List.mem_of_mem_drop hu)) (by rw [List.length_cons, List.length_drop]; omega)) (reach_call re (by omega) hb hr.2 (by omega) hz hf hv)⟩
    · refine iteF (by omega) ?_
      walk_at "gg"
      refine iteF (by omega) ?_
      walk_at "gg"
      refine iteF (by omega) ?_
      walk_at "gg"
      exact ⟨_, .refl _, hp _ _ _ _ ok.more re⟩
  · by_cases hk0 : k = 0
    · refine iteF (by omega) ?_
      walk_at "gg"
      refine iteF (by omega) ?_
      walk_at "gg"
      refine iteF (by omega) ?_
      walk_at "gg"
      refine iteT hk0 ?_
      walk_at "gg"
      refine ⟨by rw [hstl, sizeLine_eq, List.length_singleton]; omega, ?_⟩
      walk_at "gg"
      have e : rows6 R ++ [DV.d (Dat.tup [.str "push", .int (num6 rest)])] = rows6 (R ++ [.row (.push (num6 rest))]) := rows6_app (S := [.row (.push (num6 rest))])
      rw [e, stk6_cons]
      exact ⟨_, .refl _, hp _ _ _ _ (ok.app rfl (fun u hu => (List.mem_cons.mp hu).elim (fun z => z ▸ num6_small rest) (ok.st u)) ok.ss (Nat.le_refl _) (by simp) (fun i hi => by simp at hi; subst hi; exact num6_small rest) fun r hr => by simp at hr; subst hr; exact w_push) (reach_push re (by omega))⟩
    · refine iteT (by omega) ?_
      walk_at "gg"
      refine iteF (by omega) ?_
      walk_at "gg"
      refine iteT (by omega) ?_
      walk_at "gg"
      refine iteF (by omega) ?_
      walk_at "gg"
      refine iteF (by omega) ?_
      walk_at "gg"
      refine iteF (by omega) ?_
      walk_at "gg"
      refine iteT (by omega) ?_
      walk_at "gg"
      refine ⟨by rw [hstl, sizeLine_eq, List.length_singleton]; omega, ?_⟩
      walk_at "gg"
      have e : rows6 R ++ [DV.d (Dat.tup [.str "push", .int (num6 rest)])] = rows6 (R ++ [.row (.push (num6 rest))]) := rows6_app (S := [.row (.push (num6 rest))])
      rw [e, stk6_cons]
      exact ⟨_, .refl _, hp _ _ _ _ (ok.app rfl (fun u hu => (List.mem_cons.mp hu).elim (fun z => z ▸ num6_small rest) (ok.st u)) ok.ss (Nat.le_refl _) (by simp) (fun i hi => by simp at hi; subst hi; exact num6_small rest) fun r hr => by simp at hr; subst hr; exact w_push) (reach_push re (by omega))⟩
end
/-! ### _law_loop, _law_placed, _law_ended, _law_due -/
abbrev rowsL6 (l : List Row) : Dat := .lst (l.map Row.dat)
inductive RLoop6 : List Dat → Oc → Prop
  | mk (rounds many : Nat) (late : Bool) : RLoop6 [.int rounds, .int many, .bl late] (.val (rowsL6 (loop6 rounds many late)))
theorem loop6_len (rounds many : Nat) (late : Bool) : (loop6 rounds many late).length ≤ 14 := by cases late <;> simp [loop6, more6]
local macro_rules | `(tactic| walk_at "sz") => `(tactic| (refine And.intro (by simp only [List.length_append, List.length_cons, List.length_nil, List.length_map, List.length_replicate, sizeLine_eq]; omega) ?_; walk_at "gg"))
section
variable {P : Program} {w : World} {K : PySem.W.Frag} {mg : Str → Option Value} {base : Heap} {f : Addr} {fd : FuncData}
theorem ok_loop6 (T : Fun K "_law_loop" "_law_loop" s_law_loop f fd) (hm : ∀ x ∈ BB, mg x = none) : FnR P w K mg base CX0 1 f fd ["_law_rounds", "_law_slot", "_law_is_late"] (spD K RLoop6) := by
  refine def0 T sc_law_loop (by decide) (fun as o h => by cases h; rfl) fun X E as o b h => ?_
  obtain ⟨rfl, rfl, rfl, rfl, rfl, nn, sc, fn, calm, room, pass, stk, frm⟩ := b
  have kx := kx_law_loop sc nn fn hm
  haveI : Kc X _ _ _ _ := ⟨kx⟩
  haveI : Rc X := ⟨_, room⟩
  haveI : Cc X := ⟨calm⟩
  cases h with
  | mk rounds many late =>
    dsimp only [zipD, n_law_loop]
    refine hss_cons ?_
    walk_at "gg"
    cases late with
    | true =>
      walk_at "gg"
      walk_at "sz"
      walk_at "sz"
      exact rt_eq rfl
    | false =>
      walk_at "gg"
      walk_at "sz"
      walk_at "sz"
      exact rt_eq rfl
inductive RPlaced6 : List Dat → Oc → Prop
  | mk (R : List R6) (h : ∀ r, R6.row r ∈ R → r.word ≠ "call") (hl : R.length ≤ 100000) : RPlaced6 [.lst (R.map R6.dat)] (.val (rowsL6 (fin6 R)))
instance {M : Mem} {r : Row} {k : DV → Prop} : Step (IxA M (.d (R6.row r).dat) (.d (.int 0)) k) (k (.d (.str r.word))) := ⟨fun h => by cases r <;> exact .inl ⟨_, _, rfl, .tup rfl, h⟩⟩
theorem ok_placed6 (T : Fun K "_law_placed" "_law_placed" s_law_placed f fd) (hm : ∀ x ∈ BB, mg x = none) : FnR P w K mg base CX0 1 f fd ["_law_rows"] (spD K RPlaced6) := by
  refine def0 T sc_law_placed (by decide) (fun as o h => by cases h; rfl) fun X E as o b h => ?_
  obtain ⟨rfl, rfl, rfl, rfl, rfl, nn, sc, fn, calm, room, pass, stk, frm⟩ := b
  have kx := kx_law_placed sc nn fn hm
  haveI : Kc X _ _ _ _ := ⟨kx⟩
  haveI : Rc X := ⟨_, room⟩
  haveI : Cc X := ⟨calm⟩
  haveI : PassC X := ⟨pass⟩
  cases h with
  | mk R hno hl =>
    dsimp only [zipD, n_law_placed]
    refine hss_cons ?_
    walk_at "gg"
    intro q
    walk_at "gg"
    refine forN ?_
    refine hiL ?_
    walk_at "gg"
    refine ⟨fun n ds' M' => M' = [(q, MO.lst (((R.take n).map fun r => (r.place R.length).dat).map DV.d))] ∧ ∃ v, ds' = ([("_law_rows", .d (.lst (R.map R6.dat))), ("_law_found", .m q), ("_law_row", v)] : Slots), ⟨by rw [List.take_zero]; rfl, _, rfl⟩, ?_, ?_⟩
    · rintro n y ds' M' hy ⟨rfl, v, rfl⟩
      rw [List.getElem?_map] at hy
      obtain ⟨u, hu, rfl⟩ := Option.map_eq_some_iff.mp hy
      have hlt := (List.getElem?_eq_some_iff.mp hu).1
      have hz : ((((R.take n).map fun r => (r.place R.length).dat).map DV.d).length) < sizeLine := by rw [List.length_map, List.length_map, List.length_take, sizeLine_eq]; omega
      have et : ((R.take n).map fun r => (r.place R.length).dat).map DV.d ++ [DV.d (u.place R.length).dat] = ((R.take (n + 1)).map fun r => (r.place R.length).dat).map DV.d := by
        rw [List.take_add_one, hu, Option.toList, List.map_append, List.map_append]; rfl
      walk_at "gg"
      cases u with
      | row r =>
        walk_at "gg"
        refine iteF (hno r (List.mem_of_getElem? hu)) ?_
        walk_at "gg"
        exact ⟨by rw [← et]; rfl, _, rfl⟩
      | call b c ro =>
        rw [R6.dat]
        walk_at "gg"
        have ec : ((R.map R6.dat).length : Int) - 2 - 2 * (-1 - (b : Int)) = ((R.length + 2 * b : Nat) : Int) := by rw [List.length_map]; omega
        rw [ec]
        exact ⟨by rw [← et]; rfl, _, rfl⟩
    · rintro ds' M' ⟨rfl, v, rfl⟩
      rw [List.length_map, List.take_length]
      refine hss_frz (i := 0) (d := .lst (R.map fun r => (r.place R.length).dat)) rfl .lstM (.keep (.hit (.keep .nil))) ?_
      dsimp only [List.eraseIdx]
      walk_at "gg"
      walk_at "sz"
      walk_at "sz"
      refine rt_eq (congrArg Dat.lst ?_)
      show _ = (R.map (R6.place R.length) ++ sec6).map Row.dat
      rw [List.map_append, List.map_map, List.append_assoc]
      rfl
end
/-! ### _law_ended -/
/-- with something on the stack -/
def full6 (R : List R6) : List Int → List R6
  | [] => R ++ [.row (.push 7)]
  | _ :: _ => R
def fullT6 : List Int → List Int
  | [] => [7]
  | x :: t => x :: t
def PEnded6 : PreG := fun M as rt ex => ∃ (slA sA : Addr) (ms : MO) (R : List R6) (t : List Int) (m many : Nat), M = [(slA, ms), (sA, .dct (st6 (stk6 t) slA m))] ∧ as = [.m sA, .d (.lst (R.map R6.dat)), .d (.int many)] ∧ R.length ≤ 10000 ∧ t.length ≤ 10000 ∧
  rt (.d (.lst ((full6 R t ++ (end6 many ((fullT6 t).length - 1)).map R6.row).map R6.dat))) [(slA, ms), (sA, .dct (st6 (stk6 (fullT6 t)) slA m))]
theorem mapIdx_6 (d : Dat) : ∀ l : List Dat, l.mapIdx (fun _ _ => d) = List.replicate l.length d
  | [] => rfl
  | x :: r => by rw [List.mapIdx_cons, List.length_cons, List.replicate_succ, mapIdx_6 d r]
theorem end6_dat (many k : Nat) : ((end6 many k).map R6.row).map R6.dat = [Dat.tup [.str "keep", .int many]] ++ (List.replicate k (Dat.tup [.str "keep", .int ((many : Int) + 1)]) ++ [.tup [.str "load", .int many], .tup [.str "load", .int ((many : Int) + 2)], .tup [.str "do", .str "sum"], .tup [.str "back"]]) := by
  unfold end6
  rw [List.map_append, List.map_append, List.map_append, List.map_append, List.map_replicate, List.map_replicate]
  rfl
local macro_rules | `(tactic| walk_at "sz") => `(tactic| (refine And.intro (by simp only [List.length_append, List.length_cons, List.length_nil, List.length_map, List.length_replicate, sizeLine_eq]; omega) ?_; walk_at "gg"))
section
variable {P : Program} {w : World} {K : PySem.W.Frag} {mg : Str → Option Value} {base : Heap} {f : Addr} {fd : FuncData}
theorem ok_ended6 (T : Fun K "_law_ended" "_law_ended" s_law_ended f fd) (hm : ∀ x ∈ BB, mg x = none) : FnR P w K mg base CX0 1 f fd ["_law_state", "_law_rows", "_law_many"] (spG K PEnded6) := by
  refine defG0 T sc_law_ended (by decide) (fun M as rt ex ⟨slA, sA, ms, R, t, m, many, _, e, _⟩ => by rw [e]; rfl) fun X E M as rt ex b hp => ?_
  obtain ⟨rfl, rfl, rfl, rfl, rfl, nn, sc, fn, calm, room, pass, stk, frm⟩ := b
  obtain ⟨slA, sA, ms, R, t, m, many, rfl, rfl, hR, ht, hp⟩ := hp
  have kx := kx_law_ended sc nn fn hm
  haveI : Kc X _ _ _ _ := ⟨kx⟩
  haveI : Rc X := ⟨_, room⟩
  haveI : Cc X := ⟨calm⟩
  dsimp only [zipV, n_law_ended]
  have rest : ∀ (S : List R6) (t2 : List Int) (v1 v2 : DV) (st : Stmt) (rs : List Stmt), S.length ≤ 10001 → t2.length ≤ 10001 → rt (.d (.lst ((S ++ (end6 many (t2.length - 1)).map R6.row).map R6.dat))) [(slA, ms), (sA, .dct (st6 (stk6 t2) slA m))] → (defBody s_law_ended).drop 1 = st :: rs →
      HS X (fun c dd _ H => E c dd H) st ([("_law_state", .m sA), ("_law_rows", .d (.lst (S.map R6.dat))), ("_law_many", .d (.int many)), ("_law_rest", v1), ("_law_number_here", v2)] : Slots) [(slA, ms), (sA, .dct (st6 (stk6 t2) slA m))]
        ⟨fun ds' M' => HSs X (fun c dd _ H => E c dd H) rs ds' M' ⟨fun _ M' => Fr M' (rt (.d .non)), fun v M' => Fr M' (rt v), fun _ _ => False, fun _ _ => False, fun cls _ M' => Fr M' (ex cls)⟩, fun v M' => Fr M' (rt v), fun _ _ => False, fun _ _ => False, fun cls _ M' => Fr M' (ex cls)⟩ := by
    intro S t2 v1 v2 st rs hS ht2 hp hst
    obtain ⟨rfl, rfl⟩ := List.cons.inj hst
    clear hst
    refine lcS (x := "_law_number_here") (i := 4) (V' := kv_law_ended_0) (L' := kl_law_ended_0) (G' := kg_law_ended_0) (B' := kb_law_ended_0) (fun _ _ => Dat.tup [.str "keep", .int ((many : Int) + 1)]) calm nn sc hm (by decide +kernel) (by decide +kernel) rfl (by repeat constructor) rfl (by decide +kernel) (by decide +kernel) (by decide +kernel) ?_
    refine hiL ?_
    walk_at "gg"
    refine ⟨by rw [List.length_drop, List.length_map, List.length_reverse]; omega, fun D acc n y hy => ?_, .inl ?_⟩
    · walk_at "gg"
      intro Y sy ky
      haveI : Kc Y _ _ _ _ := ⟨ky⟩
      haveI : Rc Y := .same sy inferInstance
      haveI : Cc Y := .same sy inferInstance
      walk_at "gg"
      exact ⟨rfl, rfl⟩
    rw [mapIdx_6, List.length_drop, List.length_map, List.length_reverse]
    rw [List.map_append, end6_dat] at hp
    walk_at "gg"
    walk_at "sz"
    walk_at "sz"
    walk_at "sz"
    rw [List.append_assoc, List.append_assoc]
    exact ⟨_, .refl _, hp⟩
  refine hss_cons ?_
  walk_at "gg"
  cases t with
  | nil =>
    refine iteT (by simp) ?_
    walk_at "gg"
    walk_at "sz"
    have e : R.map R6.dat ++ [Dat.tup [.str "push", .int 7]] = (R ++ [R6.row (.push 7)]).map R6.dat := by rw [List.map_append]; rfl
    rw [e]
    exact rest (R ++ [.row (.push 7)]) [7] _ _ _ _ (by rw [List.length_append, List.length_singleton]; omega) (by simp) hp rfl
  | cons x t =>
    refine iteF (by simp; omega) ?_
    walk_at "gg"
    exact rest R (x :: t) _ _ _ _ (by omega) (by omega) hp rfl
end
/-! ### _law_due -/
def PDue6 : PreG := fun M as rt ex => ∃ (slA sA : Addr) (x u fuel : Int) (t sl : List Int) (m many : Nat) (wd : Str) (o : Except Ex Int), M = [(slA, .lst (intsV sl)), (sA, .dct (st6 (stk6 (x :: t)) slA m))] ∧ as = [.m sA, .d (.int many), .d (.str wd), .d (.int fuel)] ∧ Small x ∧ Small u ∧ sl[many + 2]? = some u ∧
  ((wd = "" ∧ o = reckon .sum x u) ∨ ∃ e, Goes e ∧ wd = exW e ∧ o = .error e) ∧ rt (.d (rsD (due6 fuel m o))) M
section
variable {P : Program} {w : World} {K : PySem.W.Frag} {mg : Str → Option Value} {base : Heap} {f : Addr} {fd : FuncData}
theorem ok_due6 (T : Fun K "_law_due" "_law_due" s_law_due f fd) (hm : ∀ x ∈ BB, mg x = none) (D1 : Def P w K mg base CX0 1 "_law_deed" ["_law_word", "_law_one", "_law_other"] (spD K RDeed)) : FnR P w K mg base CX0 2 f fd ["_law_state", "_law_many", "_law_word", "_law_fuel"] (spG K PDue6) := by
  refine defG0 T sc_law_due (by decide) (fun M as rt ex ⟨slA, sA, x, u, fuel, t, sl, m, many, wd, o, _, e, _⟩ => by rw [e]; rfl) fun X E M as rt ex b hp => ?_
  obtain ⟨rfl, rfl, rfl, rfl, rfl, nn, sc, fn, calm, room, pass, stk, frm⟩ := b
  obtain ⟨slA, sA, x, u, fuel, t, sl, m, many, wd, o, rfl, rfl, sx, su, hu, ho, hp⟩ := hp
  have kx := kx_law_due sc nn fn hm
  haveI : Kc X _ _ _ _ := ⟨kx⟩
  haveI : Rc X := ⟨_, room⟩
  haveI : Cc X := ⟨calm⟩
  haveI : ∀ W, CallC X W "_law_deed" RDeed := fun W => callC D1 room lets0 kx (by repeat constructor) (by decide)
  dsimp only [zipV, n_law_due]
  refine hss_cons ?_
  walk_at "gg"
  refine iteD (fun h => ?_) (fun h => ?_)
  · have e0 : due6 fuel m o = .exc .dry 0 := by cases o <;> simp only [due6] <;> rw [if_pos h.symm]
    rw [e0] at hp
    walk_at "gg"
    exact ⟨_, .refl _, hp⟩
  have h0 : ¬ (0 : Int) = fuel := fun z => h z.symm
  rw [stk6_rev]
  walk_at "gg"
  refine .inl ⟨_, _, rfl, .mu (j := 0) rfl (i := (many : Int) + 2) (d := .d (.int u)) (atI_nat (j := many + 2) (by rw [List.getElem?_map, List.getElem?_map, hu]; rfl)), ?_⟩
  walk_at "gg"
  refine relP_of (RDeed.mk .sum x u sx su) ?_
  rcases ho with ⟨rfl, rfl⟩ | ⟨e, ge, rfl, rfl⟩
  · cases hz : reckon .sum x u with
    | ok z =>
      rw [hz, due6, if_neg h0] at hp
      rw [dueD]
      walk_at "gg"
      rw [← stk6_rev]
      exact ⟨_, .refl _, hp⟩
    | error e =>
      have ge := reckon_goes hz
      rw [hz, due6, if_neg h0] at hp
      rw [dueD]
      walk_at "gg"
      refine iteF (exW_ne ge) ?_
      walk_at "gg"
      rw [← stk6_rev]
      exact ⟨_, .refl _, hp⟩
  · have hne := exW_ne ge
    rw [due6, if_neg h0] at hp
    cases hz : reckon .sum x u with
    | ok z =>
      rw [dueD]
      walk_at "gg"
      refine iteF hne ?_
      walk_at "gg"
      refine iteF hne ?_
      walk_at "gg"
      rw [← stk6_rev]
      exact ⟨_, .refl _, hp⟩
    | error e =>
      rw [dueD]
      walk_at "gg"
      refine iteF hne ?_
      walk_at "gg"
      refine iteF hne ?_
      walk_at "gg"
      rw [← stk6_rev]
      exact ⟨_, .refl _, hp⟩
end
/-! ### loops that keep all but their own name -/
/-- what stays: all but the i-th name -/
def Keep (ds : Slots) (M : Mem) (x : Str) (i : Nat) (ds' : Slots) (M' : Mem) : Prop := M' = M ∧ ∃ v, ds' = ds.set i (x, v)
theorem forKeep {X : Cx} {W : WX} {x : Str} {i : Nat} {body : List Stmt} {ds : Slots} {P : Po} {xs : List Dat} {M : Mem} (v0 : DV) (h0 : ds = ds.set i (x, v0))
    (turn : ∀ (n : Nat) (y : Dat) (v : DV), xs[n]? = some y → UpP (ds.set i (x, v)) x i (.d y) fun ds2 => HSs X W body ds2 M ⟨Keep ds M x i, P.r, P.n, Keep ds M x i, P.x⟩) (done : ∀ v : DV, P.n (ds.set i (x, v)) M) : ∃ J, ForQ X W x i body ds P J xs M := by
  refine ⟨fun _ => Keep ds M x i, ⟨rfl, v0, h0⟩, ?_, ?_⟩
  · rintro n y ds' M' hy ⟨rfl, v, rfl⟩
    exact turn n y v hy
  · rintro ds' M' ⟨rfl, v, rfl⟩
    exact done v
/-! ### law of k06 -/
def AddQ6 (x y : DV) (M : Mem) (R : DV → Mem → Prop) : Prop := (∃ i j, x = .d (.int i) ∧ y = .d (.int j) ∧ R (.d (.int (i + j))) M) ∨ CatM M x y R
instance {i j : Int} {M : Mem} {R : DV → Mem → Prop} : Step (AddQ6 (.d (.int i)) (.d (.int j)) M R) (R (.d (.int (i + j))) M) := ⟨fun h => .inl ⟨i, j, rfl, rfl, h⟩⟩
instance {xs ys : List Dat} {M : Mem} {R : DV → Mem → Prop} : Step (AddQ6 (.d (.lst xs)) (.d (.lst ys)) M R) (xs.length + ys.length ≤ sizeLine ∧ ∀ p, R (.m p) ((p, .lst ((xs ++ ys).map .d)) :: M)) := ⟨fun h => .inr ⟨xs, ys, .dat, .dat, h.1, h.2⟩⟩
def vals6 (ns : List Int) (many : Nat) : List Int := (List.range many).map fun (k : Nat) => num6 (cellAt ns (1 + (k : Int)))
theorem vals6_len (ns : List Int) (many : Nat) : (vals6 ns many).length = many := by rw [vals6, List.length_map, List.length_range]
theorem vals6_small {ns : List Int} {many : Nat} : ∀ v ∈ vals6 ns many, Small v := fun v hv => by
  obtain ⟨k, _, rfl⟩ := List.mem_map.mp hv
  exact num6_small _
def wd6 : Option Ex → Str
  | none => ""
  | some e => exW e
/-- how far the rows have come -/
def St6 (fuel : Int) (vs : List Int) (R : List R6) (t sl : List Int) (m : Nat) : Option Ex → Prop
  | none => Reach6 fuel (start6 vs) R t sl m
  | some e => Goes e ∧ Fail6 fuel (start6 vs) R e m
theorem end_all6 {fuel : Int} {vs : List Int} {many n : Nat} {R : List R6} {t sl : List Int} {m : Nat} {o : Option Ex} (hv : vs.length = many) (ok : Ok6 vs n R t sl) (hn : n ≤ 100) (st : St6 fuel vs R t sl m o) :
    ∃ (x : Int) (t' : List Int) (u : Int) (oc : Except Ex Int), fullT6 t = x :: t' ∧ Small x ∧ sl[many + 2]? = some u ∧ Small u ∧ ((wd6 o = "" ∧ oc = reckon .sum x u) ∨ ∃ e, Goes e ∧ wd6 o = exW e ∧ oc = .error e) ∧
      RunsTo (fin6 (full6 R t ++ (end6 many ((fullT6 t).length - 1)).map R6.row)) fuel 0 (many + 3) vs (due6 fuel m oc) ∧ (∀ r, R6.row r ∈ full6 R t ++ (end6 many ((fullT6 t).length - 1)).map R6.row → r.word ≠ "call") ∧
      RowsOk (fin6 (full6 R t ++ (end6 many ((fullT6 t).length - 1)).map R6.row)) ∧ (full6 R t ++ (end6 many ((fullT6 t).length - 1)).map R6.row).length ≤ 1000 := by
  have many' := ok.many
  have tl := ok.tl
  have rl := ok.rl
  have hlt : many + 2 < sl.length := by omega
  have hu : sl[many + 2]? = some sl[many + 2] := List.getElem?_eq_getElem hlt
  have su := ok.ss _ (List.mem_of_getElem? hu)
  generalize sl[many + 2] = u at hu su
  have hR : full6 R t = R ∨ full6 R t = R ++ [.row (.push 7)] := by cases t <;> simp [full6]
  have hT : (fullT6 t).length ≤ n + 2 := by cases t <;> simp only [fullT6, List.length_cons, List.length_nil] at tl ⊢ <;> omega
  have mem : ∀ r, r ∈ full6 R t ++ (end6 many ((fullT6 t).length - 1)).map R6.row → r ∈ R ∨ r = .row (.push 7) ∨ ∃ r', r = .row r' ∧ r' ∈ end6 many ((fullT6 t).length - 1) := fun r hr => by
    rcases List.mem_append.mp hr with h | h
    · rcases hR with e | e
      · rw [e] at h; exact .inl h
      · rw [e] at h
        rcases List.mem_append.mp h with h | h
        · exact .inl h
        · exact .inr (.inl (List.mem_singleton.mp h))
    · obtain ⟨r', h1, h2⟩ := List.mem_map.mp h
      exact .inr (.inr ⟨r', h2.symm, h1⟩)
  have ends : ∀ r' k, r' ∈ end6 many k → r'.word ≠ "call" ∧ ∀ i, r' ≠ .push i := fun r' k h => by
    unfold end6 at h
    simp only [List.mem_append, List.mem_cons, List.not_mem_nil, or_false, List.mem_replicate] at h
    rcases h with rfl | ⟨_, rfl⟩ | rfl | rfl | rfl | rfl
    · exact ⟨w_keep, fun i z => by cases z⟩
    · exact ⟨w_keep, fun i z => by cases z⟩
    · exact ⟨w_load, fun i z => by cases z⟩
    · exact ⟨w_load, fun i z => by cases z⟩
    · exact ⟨w_do, fun i z => by cases z⟩
    · exact ⟨w_back, fun i z => by cases z⟩
  have hno : ∀ r, R6.row r ∈ full6 R t ++ (end6 many ((fullT6 t).length - 1)).map R6.row → r.word ≠ "call" := fun r hr => by
    rcases mem _ hr with h | h | ⟨r', h1, h2⟩
    · exact ok.nocall r h
    · cases h; exact w_push
    · cases h1; exact (ends _ _ h2).1
  have hro : RowsOk (fin6 (full6 R t ++ (end6 many ((fullT6 t).length - 1)).map R6.row)) := fun i hi => by
    unfold fin6 at hi
    rcases List.mem_append.mp hi with h | h
    · obtain ⟨r, h1, h2⟩ := List.mem_map.mp h
      cases r with
      | call b c ro => cases h2
      | row r =>
        have h2 : r = .push i := h2
        subst h2
        rcases mem _ h1 with h | h | ⟨r', h1, h2⟩
        · exact ok.push i h
        · cases h; exact small_of (by decide)
        · cases h1; exact absurd rfl ((ends _ _ h2).2 i)
    · simp [sec6] at h
      subst h
      exact small_of (by decide)
  have hlen : (full6 R t ++ (end6 many ((fullT6 t).length - 1)).map R6.row).length ≤ 1000 := by
    have h1 : (full6 R t).length ≤ R.length + 1 := by rcases hR with e | e <;> rw [e] <;> simp
    rw [List.length_append, List.length_map, end6]
    simp only [List.length_append, List.length_replicate, List.length_cons, List.length_nil]
    omega
  cases o with
  | some e =>
    obtain ⟨ge, fa⟩ := st
    have more : ∃ more, full6 R t ++ (end6 many ((fullT6 t).length - 1)).map R6.row = R ++ more := by
      rcases hR with e | e <;> rw [e]
      · exact ⟨_, rfl⟩
      · exact ⟨_, List.append_assoc ..⟩
    obtain ⟨more, em⟩ := more
    have hb := runs_bad hv (more := more) fa
    rw [← em] at hb
    cases t with
    | nil => exact ⟨7, [], u, _, rfl, small_of (by decide), hu, su, .inr ⟨e, ge, rfl, rfl⟩, hb, hno, hro, hlen⟩
    | cons x t => exact ⟨x, t, u, _, rfl, ok.st x (by simp), hu, su, .inr ⟨e, ge, rfl, rfl⟩, hb, hno, hro, hlen⟩
  | none =>
    have st : Reach6 fuel (start6 vs) R t sl m := st
    cases t with
    | nil => exact ⟨7, [], u, _, rfl, small_of (by decide), hu, su, .inl ⟨rfl, rfl⟩, runs_good hv (reach_push st (by simp) (i := 7)) (by omega) hu (by simp), hno, hro, hlen⟩
    | cons x t =>
      rw [List.length_cons] at tl
      exact ⟨x, t, u, _, rfl, ok.st x (by simp), hu, su, .inl ⟨rfl, rfl⟩, runs_good hv st (by omega) hu (by omega), hno, hro, hlen⟩
theorem fits_rows6 (rows : List Row) : fits (.lst (rows.map Row.dat)) 64 = true := fits_lst (n := 63) (fitsL_all fun x hx => by
  obtain ⟨r, _, rfl⟩ := List.mem_map.mp hx
  cases r <;> exact fits_tup (n := 62) (by simp [fitsL, CS.fits]))
inductive RLaw : List Dat → Oc → Prop
  | mk (ns : List Int) (hl : ns.length ≤ 63) : RLaw [.scr ns] (.val (.bl true))
section
variable {P : Program} {w : World} {K : PySem.W.Frag} {mg : Str → Option Value} {base : Heap} {f : Addr} {fd : FuncData}
local macro_rules | `(tactic| walk_at "hook") => `(tactic| first
  | with_reducible refine relP_of (RCellAt.mk _ _ ?hk) ?_; (case hk => first | decide | omega)
  | with_reducible refine relP_of (RNumber.mk _) ?_)
local instance (priority := high) {X : Cx} {W : WX} {a b : Expr} {ds : Slots} {M : Mem} {pos : Pos} {R : DV → Mem → Prop} {Xp : Value → Mem → Prop} :
    Step (HE X W (.BinOp a .Add b pos) ds M R Xp) (HE X W a ds M (fun x M1 => HE X W b ds M1 (fun y M2 => AddQ6 x y M2 R) Xp) Xp) :=
  ⟨fun h => he_bin (op_add.or op_cat) ((od_I0 fun F i j => .int _).or od_catM) (he_imp h fun x M1 g => he_imp g fun y M2 g => g)⟩
local instance (priority := high) {X : Cx} {W : WX} {f1 f2 f3 : Expr} {a1 a2 a3 : List Expr} {k1 k2 k3 : List Keyword} {p1 p2 p3 pos : Pos} {ds : Slots} {M : Mem} {R : DV → Mem → Prop} {Xp : Value → Mem → Prop} :
    Step (HE X W (.List [.Call f1 a1 k1 p1, .Call f2 a2 k2 p2, .Call f3 a3 k3 p3] pos) ds M R Xp) (HA X W [.Call f1 a1 k1 p1, .Call f2 a2 k2 p2, .Call f3 a3 k3 p3] ds M (fun dvs M1 => dvs.length ≤ 1000 ∧ ∀ p, R (.m p) ((p, .lst dvs) :: M1)) Xp) := ⟨he_lstM⟩
local instance (priority := high) {X : Cx} {W : WX} {a b : Expr} {j : Nat} {p q pos : Pos} {ds : Slots} {M : Mem} {R : DV → Mem → Prop} {Xp : Value → Mem → Prop} [r : Rc X] :
    Step (HE X W (.Compare (.Subscript a (.Constant (.int 1) j p) q) [.Eq] [b] pos) ds M R Xp) (HE X W (.Subscript a (.Constant (.int 1) j p) q) ds M (fun x M1 => HE X W b ds M1 (fun y M2 => ∃ kvs, x = .d (.dct kvs) ∧ y = .d (.dct kvs) ∧ (kvs.map (·.1)).Nodup ∧ (∀ q ∈ kvs, fits q.2 64 = true) ∧ R (.d (.bl true)) M2) Xp) Xp) := ⟨he_eqF⟩
theorem ok_law (cs : Ex → Addr) {CC : Addr} (tcc : CCls K CC) (T : Fun K "law" "law" s_law f fd) (hm : ∀ x ∈ BB, mg x = none) (D0 : Def P w K mg base CX0 1 "_law_cell_at" ["_law_script", "_law_k"] (spD K RCellAt)) (D1 : Def P w K mg base CX0 1 "_law_number" ["_law_cell"] (spD K RNumber))
    (D2 : Def P w K mg base CX0 1 "_law_loop" ["_law_rounds", "_law_slot", "_law_is_late"] (spD K RLoop6)) (D3 : Def P w K mg base CX0 3 "_law_put" ["_law_state", "_law_rows", "_law_cell", "_law_fuel"] (spG K PPut6)) (D4 : Def P w K mg base CX0 1 "_law_ended" ["_law_state", "_law_rows", "_law_many"] (spG K PEnded6))
    (D5 : Def P w K mg base CX0 1 "_law_placed" ["_law_rows"] (spD K RPlaced6)) (D6 : Def P w K mg base CX0 2 "_law_due" ["_law_state", "_law_many", "_law_word", "_law_fuel"] (spG K PDue6)) (DI : KDef P w K mg base CX0 1 "Code" CC ["self", "rows", "starts"] (spG K (PInitC CC)))
    (DR : Def P w K mg base (L2.CX P w) 5 "run" ["code", "name", "values", "fuel"] (spG K (PRun CC cs))) : FnR P w K mg base (L2.CX P w) 6 f fd ["_law_script"] (spD K RLaw) := by
  refine defX T sc_law (by decide) (fun as o h => by cases h; rfl) fun X E as o b tk h => ?_
  obtain ⟨rfl, rfl, rfl, rfl, rfl, nn, sc, fn, calm, room, pass, stk, frm⟩ := b
  have kx := kx_law sc nn fn hm
  haveI : Kc X _ _ _ _ := ⟨kx⟩
  haveI : Rc X := ⟨_, room⟩
  haveI : Cc X := ⟨calm⟩
  haveI : PassC X := ⟨pass⟩
  haveI : ClsC X CC := ⟨tcc.cls⟩
  haveI : ∀ W, CallC X W "_law_cell_at" RCellAt := fun W => callC D0 room lets0 kx (by repeat constructor) (by decide)
  haveI : ∀ W, CallC X W "_law_loop" RLoop6 := fun W => callC D2 room lets0 kx (by repeat constructor) (by decide)
  haveI : ∀ W, CallG X W "_law_put" PPut6 := fun W => ⟨⟨_, _, _, D3, room.mono (by decide), lets0⟩⟩
  haveI : ∀ W, CallG X W "_law_ended" PEnded6 := fun W => ⟨⟨_, _, _, D4, room.mono (by decide), lets0⟩⟩
  haveI : ∀ W, CallC X W "_law_placed" RPlaced6 := fun W => callC D5 room lets0 kx (by repeat constructor) (by decide)
  haveI : ∀ W, CallG X W "_law_due" PDue6 := fun W => ⟨⟨_, _, _, D6, room.mono (by decide), lets0⟩⟩
  haveI : ∀ W, MakeN X W "Code" CC (PInitC CC) := fun W => ⟨⟨_, _, _, DI, room.mono (by decide), lets0⟩⟩
  haveI : CallG X (fun c dd _ H => E c dd H) "run" (PRun CC cs) := ⟨⟨_, _, _, DR, room.mono (by decide), letsX tk⟩⟩
  cases h with
  | mk ns hl =>
    dsimp only [zipD, n_law]
    obtain ⟨many, hmany, hm4⟩ : ∃ many : Nat, cellAt ns 0 % 5 = (many : Int) ∧ many ≤ 4 := ⟨(cellAt ns 0 % 5).toNat, by omega, by omega⟩
    obtain ⟨rounds, hrounds, hr12⟩ : ∃ r : Nat, cellAt ns 0 / 120 % 13 = (r : Int) ∧ r ≤ 12 := ⟨(cellAt ns 0 / 120 % 13).toNat, by omega, by omega⟩
    have htri := tri6_eq rounds
    have restC : ∀ (vs : List Int) (fuel : Int) (R : List R6) (r : Rs) (gs : List (Str × GS)) (h q pl : Addr) (L : Mem) (b1 b2 b3 b4 b5 : DV), vs.length = many → (∀ v ∈ vs, Small v) → RowsOk (fin6 R) → RunsTo (fin6 R) fuel 0 (many + 3) vs r → (∃ more, lookG gs (Str.ofString "first") = some ⟨0, many, many + 3, more⟩) → (gs.map (·.1)).Nodup → gs.length ≤ 10 → (∀ g ∈ gs, fits g.2.dat 64 = true) →
        HSs X (fun c dd _ H => E c dd H) ((defBody s_law).drop 17) ([("_law_script", .d (.scr ns)), ("_law_many", .d (.int many)), ("_law_values", .d (.lst (vs.map .int))), ("_law_fuel", .d (.int fuel)), ("_law_rounds", b3), ("_law_is_late", b4), ("_law_state", b5), ("_law_rows", .d (.lst ((fin6 R).map Row.dat))), ("_law_word", b1), ("_law_k", b2), ("_law_due_here", .d (rsD r)), ("_law_starts", .m pl), ("_law_handed", .m h), ("_law_found", .no), ("_law_part", .no)] : Slots) ((h, .lst [.d (.lst ((fin6 R).map Row.dat)), .m q, .d (.lst (vs.map .int))]) :: (q, .dct (gsM gs)) :: (pl, .dct (gsM gs)) :: L) ⟨fun _ _ => Oc.val (Dat.bl true) = Oc.val Dat.non, Rt (.val (.bl true)), fun _ _ => False, fun _ _ => False, fun cls _ _ => Oc.val (Dat.bl true) = Oc.exc cls⟩ := by
      intro vs fuel R r gs h q pl L b1 b2 b3 b4 b5 hvl hvs hro hru hlk hnd hgl hgf
      refine hss_frz (i := 2) (d := gsD gs) rfl .dct (.keep (.keep (.keep (.keep (.keep (.keep (.keep (.keep (.keep (.keep (.keep (.hit (.keep (.keep (.keep .nil))))))))))))))) ?_
      dsimp only [List.eraseIdx]
      refine hss_frzL (i := 1) (d := gsD gs) rfl .dct (.keep (.keep (.keep (.keep (.keep (.keep (.keep (.keep (.keep (.keep (.keep (.keep (.keep (.keep (.keep .nil))))))))))))))) (.lst (.keep (.hit (.keep .nil)))) ?_
      refine hss_frz (i := 0) (d := .lst [.lst ((fin6 R).map Row.dat), gsD gs, .lst (vs.map .int)]) rfl (.lst AllC.h) (.keep (.keep (.keep (.keep (.keep (.keep (.keep (.keep (.keep (.keep (.keep (.keep (.hit (.keep (.keep .nil))))))))))))))) ?_
      dsimp only [List.eraseIdx]
      obtain ⟨mo, hlk⟩ := hlk
      have hst : startE (cntG gs) (Str.ofString "first") vs.length = none := by
        rw [startE, cntG_look, hlk]
        exact if_pos hvl
      refine hss_cons ?_
      walk_at "gg"
      intro c dx
      refine ⟨c, dx, L, _, _, rfl, rfl, rfl, ?_⟩
      walk_at "gg"
      refine ⟨c, 0, dx, fin6 R, gs, _, vs, fuel, rfl, rfl, hro, hvs, hnd, by omega, by omega, ?_⟩
      rw [hst]
      refine ⟨_, r, hlk, by show many + 3 ≤ 100000; omega, hru, ?_⟩
      cases r with
      | val v m2 =>
        rw [rsD]
        walk_at "gg"
        refine iteND (fun z => absurd rfl z) (fun _ => ?_)
        walk_at "gg"
        refine eqQ_same rfl ?_
        walk_at "gg"
        refine forN ?_
        refine hiT ?_
        walk_at "gg"
        refine forKeep .no rfl (fun n y v1 hy => ?_) (fun v1 => ?_)
        · have hy : (∃ z, y = .int z) ∨ y = .non := by
            match n, hy with
            | 0, hy => exact .inl ⟨_, (Option.some.inj hy).symm⟩
            | 1, hy => exact .inl ⟨_, (Option.some.inj hy).symm⟩
          dsimp only [List.set_cons_succ, List.set_cons_zero]
          rcases hy with ⟨z, rfl⟩ | rfl
          · walk_at "gg"
            exact ⟨rfl, _, rfl⟩
          · walk_at "gg"
            exact ⟨rfl, _, rfl⟩
        · dsimp only [List.set_cons_succ, List.set_cons_zero]
          walk_at "gg"
          refine eqQ_same (fits_rows6 _) ?_
          walk_at "gg"
          refine ⟨_, rfl, rfl, ?_, ?_, ?_⟩
          · have e : ((gs.map (·.1)).map (fun x : Str => (Sum.inr x : Ky))).Nodup := by
              rw [List.nodup_iff_pairwise_ne, List.pairwise_map]
              exact (List.nodup_iff_pairwise_ne.mp hnd).imp fun h h2 => h (Sum.inr.inj h2)
            rw [List.map_map] at e ⊢
            exact e
          · intro q hq
            obtain ⟨g, hg, rfl⟩ := List.mem_map.mp hq
            exact hgf g hg
          walk_at "gg"
          refine eqQ_same (fits_lst (n := 63) (fitsL_all fun x hx => by obtain ⟨z, _, rfl⟩ := List.mem_map.mp hx; rfl)) ?_
          exact rt_eq rfl
      | exc e m2 =>
        rw [rsD]
        walk_at "gg"
        refine iteND (fun z => absurd rfl z) (fun _ => ?_)
        walk_at "gg"
        refine eqQ_same rfl ?_
        walk_at "gg"
        refine forN ?_
        refine hiT ?_
        walk_at "gg"
        refine forKeep .no rfl (fun n y v1 hy => ?_) (fun v1 => ?_)
        · have hy : (∃ z, y = .int z) ∨ y = .non := by
            match n, hy with
            | 0, hy => exact .inr (Option.some.inj hy).symm
            | 1, hy => exact .inl ⟨_, (Option.some.inj hy).symm⟩
          dsimp only [List.set_cons_succ, List.set_cons_zero]
          rcases hy with ⟨z, rfl⟩ | rfl
          · walk_at "gg"
            exact ⟨rfl, _, rfl⟩
          · walk_at "gg"
            exact ⟨rfl, _, rfl⟩
        · dsimp only [List.set_cons_succ, List.set_cons_zero]
          walk_at "gg"
          refine eqQ_same (fits_rows6 _) ?_
          walk_at "gg"
          refine ⟨_, rfl, rfl, ?_, ?_, ?_⟩
          · have e : ((gs.map (·.1)).map (fun x : Str => (Sum.inr x : Ky))).Nodup := by
              rw [List.nodup_iff_pairwise_ne, List.pairwise_map]
              exact (List.nodup_iff_pairwise_ne.mp hnd).imp fun h h2 => h (Sum.inr.inj h2)
            rw [List.map_map] at e ⊢
            exact e
          · intro q hq
            obtain ⟨g, hg, rfl⟩ := List.mem_map.mp hq
            exact hgf g hg
          walk_at "gg"
          refine eqQ_same (fits_lst (n := 63) (fitsL_all fun x hx => by obtain ⟨z, _, rfl⟩ := List.mem_map.mp hx; rfl)) ?_
          exact rt_eq rfl
    have restB : ∀ (vs : List Int) (fuel : Int) (late : Bool) (sA slA : Addr), vs.length = many → (∀ v ∈ vs, Small v) →
        HSs X (fun c dd _ H => E c dd H) ((defBody s_law).drop 8) ([("_law_script", .d (.scr ns)), ("_law_many", .d (.int many)), ("_law_values", .d (.lst (vs.map .int))), ("_law_fuel", .d (.int fuel)), ("_law_rounds", .d (.int rounds)), ("_law_is_late", .d (.bl late)), ("_law_state", .m sA), ("_law_rows", .no), ("_law_word", .no), ("_law_k", .no), ("_law_due_here", .no), ("_law_starts", .no), ("_law_handed", .no), ("_law_found", .no), ("_law_part", .no)] : Slots) [(slA, .lst (intsV (A6 vs (if late = true ∧ rounds = 0 then -1 else 0) (tri6 rounds)))), (sA, .dct (st6 (stk6 [4]) slA 1))] ⟨fun _ _ => Oc.val (Dat.bl true) = Oc.val Dat.non, Rt (.val (.bl true)), fun _ _ => False, fun _ _ => False, fun cls _ _ => Oc.val (Dat.bl true) = Oc.exc cls⟩ := by
      intro vs fuel late sA slA hvl hvs
      refine hss_cons ?_
      walk_at "gg"
      refine relP_of (RLoop6.mk rounds many late) ?_
      have hll := loop6_len rounds many late
      walk_at "gg"
      refine ⟨by rw [List.length_map, List.length_singleton, sizeLine_eq]; omega, fun rA => ?_⟩
      have hR0 : ((loop6 rounds many late).map Row.dat ++ [Dat.tup [.str "push", .int 4]]).map DV.d = rows6 ((loop6 rounds many late).map R6.row ++ [.row (.push 4)]) := by
        unfold rows6
        rw [List.map_append (f := R6.dat), List.map_map]
        rfl
      rw [hR0]
      have re0 := reach_push (loop_reach (fuel := fuel) hvl hr12 late) (by simp) (i := 4)
      have ok0 : Ok6 vs 0 ((loop6 rounds many late).map R6.row ++ [.row (.push 4)]) [4] (A6 vs (if late = true ∧ rounds = 0 then -1 else 0) (tri6 rounds)) := by
        have ht := tri6_le rounds
        refine ⟨by rw [a6_len hvl, hvl], fun v hv => ?_, fun v hv => ?_, by simp, by rw [List.length_append, List.length_map, List.length_singleton]; omega, fun i hi => ?_, fun r hr => ?_⟩
        · rw [List.mem_singleton.mp hv]; exact small_of (by decide)
        · rcases List.mem_append.mp hv with h | h
          · exact hvs v h
          · simp only [List.mem_cons, List.not_mem_nil, or_false] at h
            rcases h with rfl | rfl | rfl
            · split <;> exact small_of (by decide)
            · exact small_of (by decide)
            · exact small_of (by omega)
        · rcases List.mem_append.mp hi with h | h
          · obtain ⟨r, hr, e⟩ := List.mem_map.mp h
            cases e
            revert hr
            cases late <;> (simp [loop6, more6]; intro hr; rcases hr with rfl | rfl <;> exact small_of (by omega))
          · simp at h
            subst h
            exact small_of (by decide)
        · rcases List.mem_append.mp hr with h | h
          · obtain ⟨r', hr, e⟩ := List.mem_map.mp h
            cases e
            revert hr
            cases late <;> (simp [loop6, more6]; intro hr; rcases hr with rfl | rfl | rfl | rfl | rfl | rfl | rfl | rfl | rfl | rfl | rfl | rfl | rfl | rfl <;> first | exact w_push | exact w_load | exact w_keep | exact w_do | exact w_unless | exact w_skip)
          · simp at h
            subst h
            exact w_push
      generalize (loop6 rounds many late).map R6.row ++ [.row (.push 4)] = R0 at re0 ok0
      generalize A6 vs (if late = true ∧ rounds = 0 then -1 else 0) (tri6 rounds) = sl0 at re0 ok0
      walk_at "gg"
      refine forN ?_
      walk_at "gg"
      refine ⟨fun n ds' M' => n ≤ 58 ∧ ∃ (R : List R6) (t sl : List Int) (m : Nat) (o : Option Ex) (v1 : DV), Ok6 vs n R t sl ∧ St6 fuel vs R t sl m o ∧ M' = mem6 rA slA sA R t sl m ∧ ds' = ([("_law_script", .d (.scr ns)), ("_law_many", .d (.int many)), ("_law_values", .d (.lst (vs.map .int))), ("_law_fuel", .d (.int fuel)), ("_law_rounds", .d (.int rounds)), ("_law_is_late", .d (.bl late)), ("_law_state", .m sA), ("_law_rows", .m rA), ("_law_word", .d (.str (wd6 o))), ("_law_k", v1), ("_law_due_here", .no), ("_law_starts", .no), ("_law_handed", .no), ("_law_found", .no), ("_law_part", .no)] : Slots), ⟨Nat.zero_le _, R0, [4], sl0, 1, none, _, ok0, re0, rfl, rfl⟩, ?_, ?_⟩
      · rintro n y ds' M' hy ⟨hn, R, t, sl, m, o, v1, ok, st, rfl, rfl⟩
        obtain ⟨hn2, rfl⟩ := rngD_get hy
        have hlt : (5 + (n : Int)).toNat < ns.length := by omega
        cases o with
        | none =>
          walk_at "gg"
          refine iteT rfl ?_
          walk_at "gg"
          refine ⟨_, _, rfl, Ixd.scr (atI_pos (by omega) hlt), ?_⟩
          walk_at "gg"
          refine ⟨rA, slA, sA, vs, n, R, t, sl, m, _, fuel, rfl, rfl, by omega, ok, st, fun R' t' sl' m' ok' re' => ?_, fun R' e m' ge ok' fa => ?_⟩
          · walk_at "gg"
            exact ⟨R', t', sl', m', none, _, ok', re', rfl, rfl⟩
          · walk_at "gg"
            exact ⟨R', t, sl, m', some e, _, ok', ⟨ge, fa⟩, rfl, rfl⟩
        | some e =>
          walk_at "gg"
          refine iteF (exW_ne st.1) ?_
          walk_at "gg"
          exact ⟨R, t, sl, m, some e, _, ok.more, st, rfl, rfl⟩
      · rintro ds' M' ⟨hn, R, t, sl, m, o, v1, ok, st, rfl, rfl⟩
        obtain ⟨x, t', u, oc, e1, sx, hu, su, ho, hru, hno2, hro2, hl2⟩ := end_all6 hvl ok (by omega) st
        dsimp only
        refine hss_frz (i := 0) (d := .lst (R.map R6.dat)) rfl .lstM (.keep (.keep (.keep (.keep (.keep (.keep (.keep (.hit (.keep (.keep (.keep (.keep (.keep (.keep (.keep .nil))))))))))))))) ?_
        dsimp only [List.eraseIdx]
        refine hss_cons ?_
        walk_at "gg"
        have rl := ok.rl
        have tl := ok.tl
        refine ⟨slA, sA, _, R, t, m, many, rfl, rfl, by omega, by omega, ?_⟩
        walk_at "gg"
        generalize full6 R t ++ (end6 many ((fullT6 t).length - 1)).map R6.row = R2 at hru hno2 hro2 hl2
        refine relP_of (RPlaced6.mk R2 hno2 (by omega)) ?_
        rw [e1]
        walk_at "gg"
        refine ⟨slA, sA, x, u, fuel, t', sl, m, many, _, oc, rfl, rfl, sx, su, hu, ho, ?_⟩
        walk_at "gg"
        intro p0
        walk_at "gg"
        have hLen : (((fin6 R2).map Row.dat).length : Int) - 12 = (R2.length : Int) := by
          rw [List.length_map, fin6, List.length_append, List.length_map]
          show ((R2.length + 12 : Nat) : Int) - 12 = _
          omega
        rw [hLen]
        have nd2 : (["first", "second"] : List Str).Nodup := by decide +kernel
        have nd1 : (["second", "first"] : List Str).Nodup := by decide +kernel
        have nd0 : (["first"] : List Str).Nodup := by decide +kernel
        have lk1 : ∀ a b : GS, lookG [(Str.ofString "second", a), (Str.ofString "first", b)] (Str.ofString "first") = some b := fun a b => by rw [lookG, if_neg (show ¬ Str.ofString "second" = Str.ofString "first" by decide +kernel), lookG, if_pos rfl]
        have e0 : mergeD [] [((.inr (Str.ofString "first") : Ky), DV.d (Dat.tup [.int 0, .int (many : Int), .int ((many : Int) + 3), .int 9])), (.inr (Str.ofString "second"), .d (.tup [.int (R2.length : Int), .int 2, .int 3, .int 2]))] = gsM [(Str.ofString "first", ⟨0, many, many + 3, [.int 9]⟩), (Str.ofString "second", ⟨R2.length, 2, 3, [.int 2]⟩)] := rfl
        have e1' : mergeD [] [((.inr (Str.ofString "second") : Ky), DV.d (Dat.tup [.int (R2.length : Int), .int 2, .int 3])), (.inr (Str.ofString "first"), .d (.tup [.int 0, .int (many : Int), .int ((many : Int) + 3)]))] = gsM [(Str.ofString "second", ⟨R2.length, 2, 3, []⟩), (Str.ofString "first", ⟨0, many, many + 3, []⟩)] := rfl
        have e2' : mergeD [] [((.inr (Str.ofString "first") : Ky), DV.d (Dat.tup [.int 0, .int (many : Int), .int ((many : Int) + 3)]))] = gsM [(Str.ofString "first", ⟨0, many, many + 3, []⟩)] := rfl
        rw [e0]
        have C0 := fun (h q pl : Addr) (L : Mem) (b1 b2 b3 b4 b5 : DV) => restC vs fuel R2 (due6 fuel m oc) [(Str.ofString "first", ⟨0, many, many + 3, [.int 9]⟩), (Str.ofString "second", ⟨R2.length, 2, 3, [.int 2]⟩)] h q pl L b1 b2 b3 b4 b5 hvl hvs hro2 hru ⟨_, rfl⟩ nd2 (by simp) (fun g hg => by simp at hg; rcases hg with rfl | rfl <;> rfl)
        have C1 := fun (h q pl : Addr) (L : Mem) (b1 b2 b3 b4 b5 : DV) => restC vs fuel R2 (due6 fuel m oc) [(Str.ofString "second", ⟨R2.length, 2, 3, []⟩), (Str.ofString "first", ⟨0, many, many + 3, []⟩)] h q pl L b1 b2 b3 b4 b5 hvl hvs hro2 hru ⟨_, lk1 _ _⟩ nd1 (by simp) (fun g hg => by simp at hg; rcases hg with rfl | rfl <;> rfl)
        have C2 := fun (h q pl : Addr) (L : Mem) (b1 b2 b3 b4 b5 : DV) => restC vs fuel R2 (due6 fuel m oc) [(Str.ofString "first", ⟨0, many, many + 3, []⟩)] h q pl L b1 b2 b3 b4 b5 hvl hvs hro2 hru ⟨_, rfl⟩ nd0 (by simp) (fun g hg => by simp at hg; subst hg; rfl)
        refine iteD (fun _ => ?_) (fun _ => ?_)
        · walk_at "gg"
          intro p1
          walk_at "gg"
          rw [hLen, e1']
          refine iteD (fun _ => ?_) (fun _ => ?_)
          · walk_at "gg"
            intro p2
            walk_at "gg"
            rw [e2']
            intro q
            walk_at "gg"
            intro h
            repeat (first | exact C2 h q _ _ _ _ _ _ _ | refine Step.imp ?_)
          · walk_at "gg"
            intro q
            walk_at "gg"
            intro h
            repeat (first | exact C1 h q _ _ _ _ _ _ _ | refine Step.imp ?_)
        · walk_at "gg"
          refine iteD (fun _ => ?_) (fun _ => ?_)
          · walk_at "gg"
            intro p2
            walk_at "gg"
            rw [e2']
            intro q
            walk_at "gg"
            intro h
            repeat (first | exact C2 h q _ _ _ _ _ _ _ | refine Step.imp ?_)
          · walk_at "gg"
            intro q
            walk_at "gg"
            intro h
            repeat (first | exact C0 h q _ _ _ _ _ _ _ | refine Step.imp ?_)
    have restA : ∀ (vs : List Int) (fuel : Int), vs.length = many → (∀ v ∈ vs, Small v) →
        HSs X (fun c dd _ H => E c dd H) ((defBody s_law).drop 4) ([("_law_script", .d (.scr ns)), ("_law_many", .d (.int many)), ("_law_values", .d (.lst (vs.map .int))), ("_law_fuel", .d (.int fuel)), ("_law_rounds", .no), ("_law_is_late", .no), ("_law_state", .no), ("_law_rows", .no), ("_law_word", .no), ("_law_k", .no), ("_law_due_here", .no), ("_law_starts", .no), ("_law_handed", .no), ("_law_found", .no), ("_law_part", .no)] : Slots) [] ⟨fun _ _ => Oc.val (Dat.bl true) = Oc.val Dat.non, Rt (.val (.bl true)), fun _ _ => False, fun _ _ => False, fun cls _ _ => Oc.val (Dat.bl true) = Oc.exc cls⟩ := by
      intro vs fuel hvl hvs
      refine hss_cons ?_
      walk_at "gg"
      rw [hrounds]
      walk_at "gg"
      intro sA
      walk_at "gg"
      refine ⟨by rw [List.length_map, sizeLine_eq]; simp only [List.length_cons, List.length_nil]; omega, fun slA => ?_⟩
      have hsl : ((vs.map Dat.int) ++ [Dat.int 0, Dat.int 0, Dat.int ((rounds : Int) * ((rounds : Int) + 1) / 2)]).map DV.d = intsV (A6 vs 0 (tri6 rounds)) := by
        rw [htri]
        unfold intsV
        rw [List.map_append (f := Dat.int)]
        rfl
      rw [hsl]
      walk_at "gg"
      have hmd : mergeD [] [((.inr "stack" : Ky), DV.d (Dat.lst [Dat.int 4])), (.inr "slots", .m slA), (.inr "made", .d (.int 1))] = st6 (stk6 [4]) slA 1 := rfl
      rw [hmd]
      refine iteD (fun h => ?_) (fun h => ?_)
      · walk_at "gg"
        refine iteD (fun h0 => ?_) (fun h0 => ?_)
        · walk_at "gg"
          have hr0 : rounds = 0 := by omega
          have e : (if (true : Bool) = true ∧ rounds = 0 then (-1 : Int) else 0) = -1 := if_pos ⟨rfl, hr0⟩
          have q := restB vs fuel true sA slA hvl hvs
          rw [e] at q
          rw [decide_eq_true h]
          refine .inl ⟨slA, 0, intsV (A6 vs 0 (tri6 rounds)), (many : Int), many, rfl, rfl, rfl, ixN_nat6 (by rw [List.length_map, List.length_map, a6_len hvl]; omega), ?_⟩
          have es : (intsV (A6 vs 0 (tri6 rounds))).set many (.d (.int (-1))) = intsV (A6 vs (-1) (tri6 rounds)) := by
            rw [← a6_set0 hvl (j := 0) (x := -1)]
            unfold intsV
            rw [List.map_set, List.map_set]
          rw [es]
          dsimp only [List.set_cons_zero]
          repeat (first | exact q | refine Step.imp ?_)
        · have e : (if (true : Bool) = true ∧ rounds = 0 then (-1 : Int) else 0) = 0 := if_neg fun z => h0 (by omega)
          have q := restB vs fuel true sA slA hvl hvs
          rw [e] at q
          rw [decide_eq_true h]
          repeat (first | exact q | refine Step.imp ?_)
      · have e : (if (false : Bool) = true ∧ rounds = 0 then (-1 : Int) else 0) = 0 := if_neg fun z => by cases z.1
        have q := restB vs fuel false sA slA hvl hvs
        rw [e] at q
        rw [decide_eq_false h]
        repeat (first | exact q | refine Step.imp ?_)
    refine hss_cons ?_
    walk_at "gg"
    rw [hmany]
    refine lcS (x := "_law_k") (i := 9) (V' := kv_law_0) (L' := kl_law_0) (G' := kg_law_0) (B' := kb_law_0) (fun n _ => .int (num6 (cellAt ns (1 + (n : Int))))) calm nn sc hm (by decide +kernel) (by decide +kernel) rfl (by repeat constructor) rfl (by decide +kernel) (by decide +kernel) (by decide +kernel) ?_
    walk_at "gg"
    refine ⟨fun D acc n y hy => ?_, .inl ?_⟩
    · obtain ⟨hn, rfl⟩ := rngD_get hy
      walk_at "gg"
      intro Y sy ky
      haveI : Kc Y _ _ _ _ := ⟨ky⟩
      haveI : Rc Y := .same sy inferInstance
      haveI : Cc Y := .same sy inferInstance
      haveI : CallC Y W0 "_law_cell_at" RCellAt := callB sy D0 room lets0 ky (by repeat constructor) (by decide)
      haveI : CallC Y W0 "_law_number" RNumber := callB sy D1 room lets0 ky (by repeat constructor) (by decide)
      walk_at "gg"
      rw [Int.zero_add]
      exact ⟨rfl, rfl⟩
    have hvals : (rngD 0 (Int.toNat (many : Int))).mapIdx (fun n _ => Dat.int (num6 (cellAt ns (1 + (n : Int))))) = (vals6 ns many).map Dat.int := by
      rw [rngD_mapIdx, Int.toNat_natCast, vals6, List.map_map]; rfl
    rw [hvals]
    have hvl := vals6_len ns many
    have hvs := vals6_small (ns := ns) (many := many)
    generalize vals6 ns many = vs at hvl hvs
    walk_at "gg"
    refine iteD (fun _ => ?_) (fun _ => ?_)
    · refine hss_cons ?_
      repeat (first | exact restA vs _ hvl hvs | refine Step.imp ?_)
    · repeat (first | exact restA vs _ hvl hvs | refine Step.imp ?_)
end
theorem ok_all {P : Program} {w : World} {K : PySem.W.Frag} {mg : Str → Option Value} {base : Heap} {f : Addr} {fd : FuncData} (T : Fun K "law" "law" s_law f fd) (hm : ∀ x ∈ BB, mg x = none) (T_reckoned : FunAt K mg "reckoned" "reckoned" s_reckoned) (T_need_start : FunAt K mg "need_start" "need_start" s_need_start) (T_went : FunAt K mg "went" "went" s_went) (T_run : FunAt K mg "run" "run" s_run) (T_law_cell_at : FunAt K mg "_law_cell_at" "_law_cell_at" s_law_cell_at) (T_law_number : FunAt K mg "_law_number" "_law_number" s_law_number) (T_law_deed : FunAt K mg "_law_deed" "_law_deed" s_law_deed) (T_law_called : FunAt K mg "_law_called" "_law_called" s_law_called) (T_law_plain : FunAt K mg "_law_plain" "_law_plain" s_law_plain) (T_law_put : FunAt K mg "_law_put" "_law_put" s_law_put) (T_law_loop : FunAt K mg "_law_loop" "_law_loop" s_law_loop) (T_law_placed : FunAt K mg "_law_placed" "_law_placed" s_law_placed) (T_law_ended : FunAt K mg "_law_ended" "_law_ended" s_law_ended) (T_law_due : FunAt K mg "_law_due" "_law_due" s_law_due) (i_MOST : ∃ t, mg "MOST" = some (.int 1000000000000 t)) (i_DEEPEST : ∃ t, mg "DEEPEST" = some (.int 20 t)) (cs : Ex → Addr) (own : ∀ x ∈ exL, OwnE K mg x.2 (cs x.1)) (sub : ∀ x ∈ exF, ∀ y ∈ exF, PySem.W.subIn K (.ref (cs x)) (.ref (cs y)) = some (decide (x = y))) {c_Machine : Addr} (t_Machine : MCls K c_Machine) (T_Machine_init : MakeAt K mg "Machine" c_Machine "Machine.__init__" s_Machine_init ["self", "rows", "fuel"]) (T_Machine_enter : MethAt K c_Machine "enter" "Machine.enter" s_Machine_enter ["self", "row", "numbers", "room"]) (T_Machine_call : MethAt K c_Machine "call" "Machine.call" s_Machine_call ["self", "row"]) (T_Machine_work : MethAt K c_Machine "work" "Machine.work" s_Machine_work ["self"]) {c_Code : Addr} (t_Code : CCls K c_Code) (T_Code_init : MakeAt K mg "Code" c_Code "Code.__init__" s_Code_init ["self", "rows", "starts"]) : FnR P w K mg base (L2.CX P w) 6 f fd ["_law_script"] (spD K RLaw) := by
  have D7 := run_def (P := P) (w := w) (base := base) hm cs own sub i_MOST i_DEEPEST t_Machine t_Code T_reckoned T_need_start T_went T_run T_Machine_init T_Machine_enter T_Machine_call T_Machine_work
  have DI : KDef P w K mg base CX0 1 "Code" c_Code ["self", "rows", "starts"] (spG K (PInitC c_Code)) := by
    obtain ⟨f, fd, F, M, b, m⟩ := T_Code_init
    exact ⟨f, fd, ok_cinit c_Code F hm t_Code, M, b, m⟩
  have D0 : Def P w K mg base CX0 1 "_law_cell_at" ["_law_script", "_law_k"] (spD K RCellAt) := def_of T_law_cell_at (fun _ _ F => bd_law_cell_at F) fun F => ok_cell_at F hm
  have D1 : Def P w K mg base CX0 1 "_law_number" ["_law_cell"] (spD K RNumber) := def_of T_law_number (fun _ _ F => bd_law_number F) fun F => ok_number F hm
  have DD : Def P w K mg base CX0 1 "_law_deed" ["_law_word", "_law_one", "_law_other"] (spD K RDeed) := def_of T_law_deed (fun _ _ F => bd_law_deed F) fun F => ok_deed F hm
  have DC : Def P w K mg base CX0 2 "_law_called" ["_law_numbers", "_law_state", "_law_fuel"] (spG K PCalled) := def_of T_law_called (fun _ _ F => bd_law_called F) fun F => ok_called F hm DD
  have DP : Def P w K mg base CX0 1 "_law_plain" ["_law_state", "_law_rows", "_law_kind", "_law_rest"] (spG K PPlain) := def_of T_law_plain (fun _ _ F => bd_law_plain F) fun F => ok_plain F hm
  have DU : Def P w K mg base CX0 3 "_law_put" ["_law_state", "_law_rows", "_law_cell", "_law_fuel"] (spG K PPut6) := def_of T_law_put (fun _ _ F => bd_law_put F) fun F => ok_put6 F hm DP DD DC D1
  have DL : Def P w K mg base CX0 1 "_law_loop" ["_law_rounds", "_law_slot", "_law_is_late"] (spD K RLoop6) := def_of T_law_loop (fun _ _ F => bd_law_loop F) fun F => ok_loop6 F hm
  have DA : Def P w K mg base CX0 1 "_law_placed" ["_law_rows"] (spD K RPlaced6) := def_of T_law_placed (fun _ _ F => bd_law_placed F) fun F => ok_placed6 F hm
  have DE : Def P w K mg base CX0 1 "_law_ended" ["_law_state", "_law_rows", "_law_many"] (spG K PEnded6) := def_of T_law_ended (fun _ _ F => bd_law_ended F) fun F => ok_ended6 F hm
  have DO : Def P w K mg base CX0 2 "_law_due" ["_law_state", "_law_many", "_law_word", "_law_fuel"] (spG K PDue6) := def_of T_law_due (fun _ _ F => bd_law_due F) fun F => ok_due6 F hm DD
  exact ok_law cs t_Code T hm D0 D1 DL DU DE DA DO DI D7
theorem all_mk {l : PySem.W.OpenLaw} {w : World} {K : PySem.W.Frag} {h : Heap} {mg : Str → Option Value} {fa f1 f2 f3 f4 f5 f6 f7 f8 f9 f10 f11 f12 f13 f14 f15 f16 f17 f18 f19 f20 e_NoSuchFunction e_WrongCount e_ByNought e_TooGreat e_TooDeep e_Dry c_Machine c_Code : Addr} (X : K.In h) (G : h.Ns mainGlobals mg) (hfa : mg "law" = some (.ref fa))
    {od1 an1 od2 an2 od3 an3 od4 an4 od5 an5 od6 an6 od7 an7 od8 an8 od9 an9 od10 an10 od11 an11 od12 an12 od13 an13 od14 an14 od15 an15 od16 an16 od17 an17 od18 an18 od19 an19 od20 an20 : Option Addr} {sl1 sl2 sl3 sl4 sl5 sl6 sl7 sl8 sl9 sl10 sl11 sl12 sl13 sl14 sl15 sl16 sl17 sl18 sl19 sl20 : Array (Option Value)} {oc1 kV1 dc1 pm1 cd1 ct1 oc2 kV2 dc2 pm2 cd2 ct2 oc3 kV3 dc3 pm3 cd3 ct3 oc4 kV4 dc4 pm4 cd4 ct4 oc5 kV5 dc5 pm5 cd5 ct5 oc6 kV6 dc6 pm6 cd6 ct6 oc7 kV7 dc7 pm7 cd7 ct7 oc8 kV8 dc8 pm8 cd8 ct8 oc9 kV9 dc9 pm9 cd9 ct9 oc10 kV10 dc10 pm10 cd10 ct10 oc11 kV11 dc11 pm11 cd11 ct11 oc12 kV12 dc12 pm12 cd12 ct12 oc13 kV13 dc13 pm13 cd13 ct13 oc14 kV14 dc14 pm14 cd14 ct14 oc15 kV15 dc15 pm15 cd15 ct15 oc16 kV16 dc16 pm16 cd16 ct16 oc17 kV17 dc17 pm17 cd17 ct17 oc18 kV18 dc18 pm18 cd18 ct18 oc19 kV19 dc19 pm19 cd19 ct19 oc20 kV20 dc20 pm20 cd20 ct20 : Value} {t_MOST t_DEEPEST : Tok}
    (cg_Machine : PySem.W.nsIn K mainGlobals "Machine" = some (some (.ref c_Machine)))
    (cp_Machine : PySem.W.plainGet K c_Machine Str.empty = true)
    (ch_Machine : PySem.W.hasDictIn K c_Machine = true)
    (co_Machine : PySem.W.plainOver K c_Machine = true)
    (cs_Machine : PySem.W.findIn K (.ref c_Machine) "__setattr__" = some (some (.builtin "object.__setattr__")))
    (cm_Machine : PySem.W.makesIn K c_Machine = true)
    (ck_Machine : PySem.W.keepIn K (.ref c_Machine) = true)
    (n_Machine_rows : PySem.W.findIn K (.ref c_Machine) "rows" = some none)
    (n_Machine_fuel : PySem.W.findIn K (.ref c_Machine) "fuel" = some none)
    (n_Machine_made : PySem.W.findIn K (.ref c_Machine) "made" = some none)
    (n_Machine_at : PySem.W.findIn K (.ref c_Machine) "at" = some none)
    (n_Machine_stack : PySem.W.findIn K (.ref c_Machine) "stack" = some none)
    (n_Machine_frames : PySem.W.findIn K (.ref c_Machine) "frames" = some none)
    (cg_Code : PySem.W.nsIn K mainGlobals "Code" = some (some (.ref c_Code)))
    (cp_Code : PySem.W.plainGet K c_Code Str.empty = true)
    (ch_Code : PySem.W.hasDictIn K c_Code = true)
    (co_Code : PySem.W.plainOver K c_Code = true)
    (cs_Code : PySem.W.findIn K (.ref c_Code) "__setattr__" = some (some (.builtin "object.__setattr__")))
    (cm_Code : PySem.W.makesIn K c_Code = true)
    (ck_Code : PySem.W.keepIn K (.ref c_Code) = true)
    (n_Code_rows : PySem.W.findIn K (.ref c_Code) "rows" = some none)
    (n_Code_starts : PySem.W.findIn K (.ref c_Code) "starts" = some none)
    (a1 : PySem.W.nsIn K mainGlobals "reckoned" = some (some (.ref f1)))
    (l1 : K.lookup f1 = some ⟨oc1, od1, .func (PySem.W.fnOf "reckoned" "reckoned" (defArgs s_reckoned) (defBody s_reckoned) (defScope s_reckoned) .none kV1 dc1 pm1 an1 cd1 ct1), sl1⟩)
    (c1 : PySem.W.codeIn K cd1 "reckoned" = true)
    (k1 : PySem.W.keepIn K (.ref f1) = true)
    (a2 : PySem.W.nsIn K mainGlobals "need_start" = some (some (.ref f2)))
    (l2 : K.lookup f2 = some ⟨oc2, od2, .func (PySem.W.fnOf "need_start" "need_start" (defArgs s_need_start) (defBody s_need_start) (defScope s_need_start) .none kV2 dc2 pm2 an2 cd2 ct2), sl2⟩)
    (c2 : PySem.W.codeIn K cd2 "need_start" = true)
    (k2 : PySem.W.keepIn K (.ref f2) = true)
    (a3 : PySem.W.nsIn K mainGlobals "went" = some (some (.ref f3)))
    (l3 : K.lookup f3 = some ⟨oc3, od3, .func (PySem.W.fnOf "went" "went" (defArgs s_went) (defBody s_went) (defScope s_went) .none kV3 dc3 pm3 an3 cd3 ct3), sl3⟩)
    (c3 : PySem.W.codeIn K cd3 "went" = true)
    (k3 : PySem.W.keepIn K (.ref f3) = true)
    (a4 : PySem.W.nsIn K mainGlobals "run" = some (some (.ref f4)))
    (l4 : K.lookup f4 = some ⟨oc4, od4, .func (PySem.W.fnOf "run" "run" (defArgs s_run) (defBody s_run) (defScope s_run) .none kV4 dc4 pm4 an4 cd4 ct4), sl4⟩)
    (c4 : PySem.W.codeIn K cd4 "run" = true)
    (k4 : PySem.W.keepIn K (.ref f4) = true)
    (a5 : PySem.W.nsIn K mainGlobals "_law_cell_at" = some (some (.ref f5)))
    (l5 : K.lookup f5 = some ⟨oc5, od5, .func (PySem.W.fnOf "_law_cell_at" "_law_cell_at" (defArgs s_law_cell_at) (defBody s_law_cell_at) (defScope s_law_cell_at) .none kV5 dc5 pm5 an5 cd5 ct5), sl5⟩)
    (c5 : PySem.W.codeIn K cd5 "_law_cell_at" = true)
    (k5 : PySem.W.keepIn K (.ref f5) = true)
    (a6 : PySem.W.nsIn K mainGlobals "_law_number" = some (some (.ref f6)))
    (l6 : K.lookup f6 = some ⟨oc6, od6, .func (PySem.W.fnOf "_law_number" "_law_number" (defArgs s_law_number) (defBody s_law_number) (defScope s_law_number) .none kV6 dc6 pm6 an6 cd6 ct6), sl6⟩)
    (c6 : PySem.W.codeIn K cd6 "_law_number" = true)
    (k6 : PySem.W.keepIn K (.ref f6) = true)
    (a7 : PySem.W.nsIn K mainGlobals "_law_deed" = some (some (.ref f7)))
    (l7 : K.lookup f7 = some ⟨oc7, od7, .func (PySem.W.fnOf "_law_deed" "_law_deed" (defArgs s_law_deed) (defBody s_law_deed) (defScope s_law_deed) .none kV7 dc7 pm7 an7 cd7 ct7), sl7⟩)
    (c7 : PySem.W.codeIn K cd7 "_law_deed" = true)
    (k7 : PySem.W.keepIn K (.ref f7) = true)
    (a8 : PySem.W.nsIn K mainGlobals "_law_called" = some (some (.ref f8)))
    (l8 : K.lookup f8 = some ⟨oc8, od8, .func (PySem.W.fnOf "_law_called" "_law_called" (defArgs s_law_called) (defBody s_law_called) (defScope s_law_called) .none kV8 dc8 pm8 an8 cd8 ct8), sl8⟩)
    (c8 : PySem.W.codeIn K cd8 "_law_called" = true)
    (k8 : PySem.W.keepIn K (.ref f8) = true)
    (a9 : PySem.W.nsIn K mainGlobals "_law_plain" = some (some (.ref f9)))
    (l9 : K.lookup f9 = some ⟨oc9, od9, .func (PySem.W.fnOf "_law_plain" "_law_plain" (defArgs s_law_plain) (defBody s_law_plain) (defScope s_law_plain) .none kV9 dc9 pm9 an9 cd9 ct9), sl9⟩)
    (c9 : PySem.W.codeIn K cd9 "_law_plain" = true)
    (k9 : PySem.W.keepIn K (.ref f9) = true)
    (a10 : PySem.W.nsIn K mainGlobals "_law_put" = some (some (.ref f10)))
    (l10 : K.lookup f10 = some ⟨oc10, od10, .func (PySem.W.fnOf "_law_put" "_law_put" (defArgs s_law_put) (defBody s_law_put) (defScope s_law_put) .none kV10 dc10 pm10 an10 cd10 ct10), sl10⟩)
    (c10 : PySem.W.codeIn K cd10 "_law_put" = true)
    (k10 : PySem.W.keepIn K (.ref f10) = true)
    (a11 : PySem.W.nsIn K mainGlobals "_law_loop" = some (some (.ref f11)))
    (l11 : K.lookup f11 = some ⟨oc11, od11, .func (PySem.W.fnOf "_law_loop" "_law_loop" (defArgs s_law_loop) (defBody s_law_loop) (defScope s_law_loop) .none kV11 dc11 pm11 an11 cd11 ct11), sl11⟩)
    (c11 : PySem.W.codeIn K cd11 "_law_loop" = true)
    (k11 : PySem.W.keepIn K (.ref f11) = true)
    (a12 : PySem.W.nsIn K mainGlobals "_law_placed" = some (some (.ref f12)))
    (l12 : K.lookup f12 = some ⟨oc12, od12, .func (PySem.W.fnOf "_law_placed" "_law_placed" (defArgs s_law_placed) (defBody s_law_placed) (defScope s_law_placed) .none kV12 dc12 pm12 an12 cd12 ct12), sl12⟩)
    (c12 : PySem.W.codeIn K cd12 "_law_placed" = true)
    (k12 : PySem.W.keepIn K (.ref f12) = true)
    (a13 : PySem.W.nsIn K mainGlobals "_law_ended" = some (some (.ref f13)))
    (l13 : K.lookup f13 = some ⟨oc13, od13, .func (PySem.W.fnOf "_law_ended" "_law_ended" (defArgs s_law_ended) (defBody s_law_ended) (defScope s_law_ended) .none kV13 dc13 pm13 an13 cd13 ct13), sl13⟩)
    (c13 : PySem.W.codeIn K cd13 "_law_ended" = true)
    (k13 : PySem.W.keepIn K (.ref f13) = true)
    (a14 : PySem.W.nsIn K mainGlobals "_law_due" = some (some (.ref f14)))
    (l14 : K.lookup f14 = some ⟨oc14, od14, .func (PySem.W.fnOf "_law_due" "_law_due" (defArgs s_law_due) (defBody s_law_due) (defScope s_law_due) .none kV14 dc14 pm14 an14 cd14 ct14), sl14⟩)
    (c14 : PySem.W.codeIn K cd14 "_law_due" = true)
    (k14 : PySem.W.keepIn K (.ref f14) = true)
    (a15 : PySem.W.nsIn K mainGlobals "law" = some (some (.ref f15)))
    (l15 : K.lookup f15 = some ⟨oc15, od15, .func (PySem.W.fnOf "law" "law" (defArgs s_law) (defBody s_law) (defScope s_law) .none kV15 dc15 pm15 an15 cd15 ct15), sl15⟩)
    (c15 : PySem.W.codeIn K cd15 "law" = true)
    (k15 : PySem.W.keepIn K (.ref f15) = true)
    (a16 : PySem.W.findIn K (.ref c_Machine) "__init__" = some (some (.ref f16)))
    (g16 : PySem.W.isFn K (.ref f16) = true)
    (l16 : K.lookup f16 = some ⟨oc16, od16, .func (PySem.W.fnOf "__init__" "Machine.__init__" (defArgs s_Machine_init) (defBody s_Machine_init) (defScope s_Machine_init) .none kV16 dc16 pm16 an16 cd16 ct16), sl16⟩)
    (c16 : PySem.W.codeIn K cd16 "Machine.__init__" = true)
    (k16 : PySem.W.keepIn K (.ref f16) = true)
    (a17 : PySem.W.findIn K (.ref c_Machine) "enter" = some (some (.ref f17)))
    (g17 : PySem.W.isFn K (.ref f17) = true)
    (l17 : K.lookup f17 = some ⟨oc17, od17, .func (PySem.W.fnOf "enter" "Machine.enter" (defArgs s_Machine_enter) (defBody s_Machine_enter) (defScope s_Machine_enter) .none kV17 dc17 pm17 an17 cd17 ct17), sl17⟩)
    (c17 : PySem.W.codeIn K cd17 "Machine.enter" = true)
    (k17 : PySem.W.keepIn K (.ref f17) = true)
    (a18 : PySem.W.findIn K (.ref c_Machine) "call" = some (some (.ref f18)))
    (g18 : PySem.W.isFn K (.ref f18) = true)
    (l18 : K.lookup f18 = some ⟨oc18, od18, .func (PySem.W.fnOf "call" "Machine.call" (defArgs s_Machine_call) (defBody s_Machine_call) (defScope s_Machine_call) .none kV18 dc18 pm18 an18 cd18 ct18), sl18⟩)
    (c18 : PySem.W.codeIn K cd18 "Machine.call" = true)
    (k18 : PySem.W.keepIn K (.ref f18) = true)
    (a19 : PySem.W.findIn K (.ref c_Machine) "work" = some (some (.ref f19)))
    (g19 : PySem.W.isFn K (.ref f19) = true)
    (l19 : K.lookup f19 = some ⟨oc19, od19, .func (PySem.W.fnOf "work" "Machine.work" (defArgs s_Machine_work) (defBody s_Machine_work) (defScope s_Machine_work) .none kV19 dc19 pm19 an19 cd19 ct19), sl19⟩)
    (c19 : PySem.W.codeIn K cd19 "Machine.work" = true)
    (k19 : PySem.W.keepIn K (.ref f19) = true)
    (a20 : PySem.W.findIn K (.ref c_Code) "__init__" = some (some (.ref f20)))
    (g20 : PySem.W.isFn K (.ref f20) = true)
    (l20 : K.lookup f20 = some ⟨oc20, od20, .func (PySem.W.fnOf "__init__" "Code.__init__" (defArgs s_Code_init) (defBody s_Code_init) (defScope s_Code_init) .none kV20 dc20 pm20 an20 cd20 ct20), sl20⟩)
    (c20 : PySem.W.codeIn K cd20 "Code.__init__" = true)
    (k20 : PySem.W.keepIn K (.ref f20) = true)
    (z0 : PySem.W.nsIn K mainGlobals "abs" = some none)
    (z1 : PySem.W.nsIn K mainGlobals "bool" = some none)
    (z2 : PySem.W.nsIn K mainGlobals "dict" = some none)
    (z3 : PySem.W.nsIn K mainGlobals "int" = some none)
    (z4 : PySem.W.nsIn K mainGlobals "isinstance" = some none)
    (z5 : PySem.W.nsIn K mainGlobals "len" = some none)
    (z6 : PySem.W.nsIn K mainGlobals "list" = some none)
    (z7 : PySem.W.nsIn K mainGlobals "min" = some none)
    (z8 : PySem.W.nsIn K mainGlobals "range" = some none)
    (z9 : PySem.W.nsIn K mainGlobals "str" = some none)
    (z10 : PySem.W.nsIn K mainGlobals "tuple" = some none)
    (i_MOST : PySem.W.nsIn K mainGlobals "MOST" = some (some (.int 1000000000000 t_MOST)))
    (i_DEEPEST : PySem.W.nsIn K mainGlobals "DEEPEST" = some (some (.int 20 t_DEEPEST)))
    (xg_NoSuchFunction : PySem.W.nsIn K mainGlobals "NoSuchFunction" = some (some (.ref e_NoSuchFunction)))
    (xq_NoSuchFunction : PySem.W.excIn K e_NoSuchFunction [.type "ValueError", .type "Exception", .type "BaseException", .type "object"] "ValueError.__new__" = true)
    (xk_NoSuchFunction : PySem.W.keepIn K (.ref e_NoSuchFunction) = true)
    (xb_NoSuchFunction : PySem.W.subIn K (.ref e_NoSuchFunction) (.type "BaseException") = some true)
    (xt_NoSuchFunction : PySem.W.typeIn K (.ref e_NoSuchFunction) = some (.type "type"))
    (xh_NoSuchFunction : PySem.W.hasDictIn K e_NoSuchFunction = true)
    (xg_WrongCount : PySem.W.nsIn K mainGlobals "WrongCount" = some (some (.ref e_WrongCount)))
    (xq_WrongCount : PySem.W.excIn K e_WrongCount [.type "ValueError", .type "Exception", .type "BaseException", .type "object"] "ValueError.__new__" = true)
    (xk_WrongCount : PySem.W.keepIn K (.ref e_WrongCount) = true)
    (xb_WrongCount : PySem.W.subIn K (.ref e_WrongCount) (.type "BaseException") = some true)
    (xt_WrongCount : PySem.W.typeIn K (.ref e_WrongCount) = some (.type "type"))
    (xh_WrongCount : PySem.W.hasDictIn K e_WrongCount = true)
    (xg_ByNought : PySem.W.nsIn K mainGlobals "ByNought" = some (some (.ref e_ByNought)))
    (xq_ByNought : PySem.W.excIn K e_ByNought [.type "ValueError", .type "Exception", .type "BaseException", .type "object"] "ValueError.__new__" = true)
    (xk_ByNought : PySem.W.keepIn K (.ref e_ByNought) = true)
    (xb_ByNought : PySem.W.subIn K (.ref e_ByNought) (.type "BaseException") = some true)
    (xt_ByNought : PySem.W.typeIn K (.ref e_ByNought) = some (.type "type"))
    (xh_ByNought : PySem.W.hasDictIn K e_ByNought = true)
    (xg_TooGreat : PySem.W.nsIn K mainGlobals "TooGreat" = some (some (.ref e_TooGreat)))
    (xq_TooGreat : PySem.W.excIn K e_TooGreat [.type "ValueError", .type "Exception", .type "BaseException", .type "object"] "ValueError.__new__" = true)
    (xk_TooGreat : PySem.W.keepIn K (.ref e_TooGreat) = true)
    (xb_TooGreat : PySem.W.subIn K (.ref e_TooGreat) (.type "BaseException") = some true)
    (xt_TooGreat : PySem.W.typeIn K (.ref e_TooGreat) = some (.type "type"))
    (xh_TooGreat : PySem.W.hasDictIn K e_TooGreat = true)
    (xg_TooDeep : PySem.W.nsIn K mainGlobals "TooDeep" = some (some (.ref e_TooDeep)))
    (xq_TooDeep : PySem.W.excIn K e_TooDeep [.type "ValueError", .type "Exception", .type "BaseException", .type "object"] "ValueError.__new__" = true)
    (xk_TooDeep : PySem.W.keepIn K (.ref e_TooDeep) = true)
    (xb_TooDeep : PySem.W.subIn K (.ref e_TooDeep) (.type "BaseException") = some true)
    (xt_TooDeep : PySem.W.typeIn K (.ref e_TooDeep) = some (.type "type"))
    (xh_TooDeep : PySem.W.hasDictIn K e_TooDeep = true)
    (xg_Dry : PySem.W.nsIn K mainGlobals "Dry" = some (some (.ref e_Dry)))
    (xq_Dry : PySem.W.excIn K e_Dry [.type "ValueError", .type "Exception", .type "BaseException", .type "object"] "ValueError.__new__" = true)
    (xk_Dry : PySem.W.keepIn K (.ref e_Dry) = true)
    (xb_Dry : PySem.W.subIn K (.ref e_Dry) (.type "BaseException") = some true)
    (xt_Dry : PySem.W.typeIn K (.ref e_Dry) = some (.type "type"))
    (xh_Dry : PySem.W.hasDictIn K e_Dry = true)
    (s_ByNought_ByNought : PySem.W.subIn K (.ref e_ByNought) (.ref e_ByNought) = some true)
    (s_ByNought_TooGreat : PySem.W.subIn K (.ref e_ByNought) (.ref e_TooGreat) = some false)
    (s_ByNought_TooDeep : PySem.W.subIn K (.ref e_ByNought) (.ref e_TooDeep) = some false)
    (s_ByNought_Dry : PySem.W.subIn K (.ref e_ByNought) (.ref e_Dry) = some false)
    (s_TooGreat_ByNought : PySem.W.subIn K (.ref e_TooGreat) (.ref e_ByNought) = some false)
    (s_TooGreat_TooGreat : PySem.W.subIn K (.ref e_TooGreat) (.ref e_TooGreat) = some true)
    (s_TooGreat_TooDeep : PySem.W.subIn K (.ref e_TooGreat) (.ref e_TooDeep) = some false)
    (s_TooGreat_Dry : PySem.W.subIn K (.ref e_TooGreat) (.ref e_Dry) = some false)
    (s_TooDeep_ByNought : PySem.W.subIn K (.ref e_TooDeep) (.ref e_ByNought) = some false)
    (s_TooDeep_TooGreat : PySem.W.subIn K (.ref e_TooDeep) (.ref e_TooGreat) = some false)
    (s_TooDeep_TooDeep : PySem.W.subIn K (.ref e_TooDeep) (.ref e_TooDeep) = some true)
    (s_TooDeep_Dry : PySem.W.subIn K (.ref e_TooDeep) (.ref e_Dry) = some false)
    (s_Dry_ByNought : PySem.W.subIn K (.ref e_Dry) (.ref e_ByNought) = some false)
    (s_Dry_TooGreat : PySem.W.subIn K (.ref e_Dry) (.ref e_TooGreat) = some false)
    (s_Dry_TooDeep : PySem.W.subIn K (.ref e_Dry) (.ref e_TooDeep) = some false)
    (s_Dry_Dry : PySem.W.subIn K (.ref e_Dry) (.ref e_Dry) = some true)
    : ∃ fd : FuncData, (∀ (s : Shared) (v : Value), BindsTo s fd ⟨[v], []⟩ [("_law_script", v)]) ∧ ∀ base : Heap, K.In base → base.Ns mainGlobals mg → FnR l.prog w K mg base (L2.CX l.prog w) 6 fa fd ["_law_script"] (spD K RLaw) := by
  have e := hfa.symm.trans (PySem.W.mg_of X G a15)
  cases e
  refine ⟨(PySem.W.fnOf "law" "law" (defArgs s_law) (defBody s_law) (defScope s_law) .none kV15 dc15 pm15 an15 cd15 ct15), fun s v => .of_eq rfl, fun base _ _ => ?_⟩
  have hm : ∀ x ∈ BB, mg x = none := by
    intro x hx
    simp only [BB, List.mem_cons, List.not_mem_nil, or_false] at hx
    rcases hx with rfl | rfl | rfl | rfl | rfl | rfl | rfl | rfl | rfl | rfl | rfl
    · exact PySem.W.mg_none_of X G z0
    · exact PySem.W.mg_none_of X G z1
    · exact PySem.W.mg_none_of X G z2
    · exact PySem.W.mg_none_of X G z3
    · exact PySem.W.mg_none_of X G z4
    · exact PySem.W.mg_none_of X G z5
    · exact PySem.W.mg_none_of X G z6
    · exact PySem.W.mg_none_of X G z7
    · exact PySem.W.mg_none_of X G z8
    · exact PySem.W.mg_none_of X G z9
    · exact PySem.W.mg_none_of X G z10
  have own : ∀ x ∈ exL, OwnE K mg x.2 ((fun e : Ex => match e with | .twice => 0 | .name => 0 | .func => e_NoSuchFunction | .count => e_WrongCount | .tall => 0 | .nought => e_ByNought | .great => e_TooGreat | .deep => e_TooDeep | .dry => e_Dry) x.1) := by
    intro x hx
    simp only [exL, List.mem_cons, List.not_mem_nil, or_false] at hx
    rcases hx with rfl | rfl | rfl | rfl | rfl | rfl
    · exact ⟨PySem.W.mg_of X G xg_NoSuchFunction, xq_NoSuchFunction, xk_NoSuchFunction, xb_NoSuchFunction, xt_NoSuchFunction, xh_NoSuchFunction⟩
    · exact ⟨PySem.W.mg_of X G xg_WrongCount, xq_WrongCount, xk_WrongCount, xb_WrongCount, xt_WrongCount, xh_WrongCount⟩
    · exact ⟨PySem.W.mg_of X G xg_ByNought, xq_ByNought, xk_ByNought, xb_ByNought, xt_ByNought, xh_ByNought⟩
    · exact ⟨PySem.W.mg_of X G xg_TooGreat, xq_TooGreat, xk_TooGreat, xb_TooGreat, xt_TooGreat, xh_TooGreat⟩
    · exact ⟨PySem.W.mg_of X G xg_TooDeep, xq_TooDeep, xk_TooDeep, xb_TooDeep, xt_TooDeep, xh_TooDeep⟩
    · exact ⟨PySem.W.mg_of X G xg_Dry, xq_Dry, xk_Dry, xb_Dry, xt_Dry, xh_Dry⟩
  have sub : ∀ x ∈ exF, ∀ y ∈ exF, PySem.W.subIn K (.ref ((fun e : Ex => match e with | .twice => 0 | .name => 0 | .func => e_NoSuchFunction | .count => e_WrongCount | .tall => 0 | .nought => e_ByNought | .great => e_TooGreat | .deep => e_TooDeep | .dry => e_Dry) x)) (.ref ((fun e : Ex => match e with | .twice => 0 | .name => 0 | .func => e_NoSuchFunction | .count => e_WrongCount | .tall => 0 | .nought => e_ByNought | .great => e_TooGreat | .deep => e_TooDeep | .dry => e_Dry) y)) = some (decide (x = y)) := by
    intro x hx y hy
    simp only [exF, List.mem_cons, List.not_mem_nil, or_false] at hx hy
    rcases hx with rfl | rfl | rfl | rfl <;> rcases hy with rfl | rfl | rfl | rfl
    · exact s_ByNought_ByNought
    · exact s_ByNought_TooGreat
    · exact s_ByNought_TooDeep
    · exact s_ByNought_Dry
    · exact s_TooGreat_ByNought
    · exact s_TooGreat_TooGreat
    · exact s_TooGreat_TooDeep
    · exact s_TooGreat_Dry
    · exact s_TooDeep_ByNought
    · exact s_TooDeep_TooGreat
    · exact s_TooDeep_TooDeep
    · exact s_TooDeep_Dry
    · exact s_Dry_ByNought
    · exact s_Dry_TooGreat
    · exact s_Dry_TooDeep
    · exact s_Dry_Dry
  exact ok_all (fun_mk (st := s_law) l15 c15 k15)
    hm
    ⟨_, _, fun_mk (st := s_reckoned) l1 c1 k1, PySem.W.mg_of X G a1⟩
    ⟨_, _, fun_mk (st := s_need_start) l2 c2 k2, PySem.W.mg_of X G a2⟩
    ⟨_, _, fun_mk (st := s_went) l3 c3 k3, PySem.W.mg_of X G a3⟩
    ⟨_, _, fun_mk (st := s_run) l4 c4 k4, PySem.W.mg_of X G a4⟩
    ⟨_, _, fun_mk (st := s_law_cell_at) l5 c5 k5, PySem.W.mg_of X G a5⟩
    ⟨_, _, fun_mk (st := s_law_number) l6 c6 k6, PySem.W.mg_of X G a6⟩
    ⟨_, _, fun_mk (st := s_law_deed) l7 c7 k7, PySem.W.mg_of X G a7⟩
    ⟨_, _, fun_mk (st := s_law_called) l8 c8 k8, PySem.W.mg_of X G a8⟩
    ⟨_, _, fun_mk (st := s_law_plain) l9 c9 k9, PySem.W.mg_of X G a9⟩
    ⟨_, _, fun_mk (st := s_law_put) l10 c10 k10, PySem.W.mg_of X G a10⟩
    ⟨_, _, fun_mk (st := s_law_loop) l11 c11 k11, PySem.W.mg_of X G a11⟩
    ⟨_, _, fun_mk (st := s_law_placed) l12 c12 k12, PySem.W.mg_of X G a12⟩
    ⟨_, _, fun_mk (st := s_law_ended) l13 c13 k13, PySem.W.mg_of X G a13⟩
    ⟨_, _, fun_mk (st := s_law_due) l14 c14 k14, PySem.W.mg_of X G a14⟩
    ⟨_, PySem.W.mg_of X G i_MOST⟩
    ⟨_, PySem.W.mg_of X G i_DEEPEST⟩
    _ own
    sub
    ⟨⟨cp_Machine, ch_Machine, co_Machine, cs_Machine⟩, n_Machine_rows, n_Machine_fuel, n_Machine_made, n_Machine_at, n_Machine_stack, n_Machine_frames⟩
    ⟨_, _, fun_mk (st := s_Machine_init) l16 c16 k16, ⟨cm_Machine, a16, g16, ck_Machine⟩, (Fun.binds (ps := ["self", "rows", "fuel"]) (fun_mk (st := s_Machine_init) l16 c16 k16) fun _ _ _ _ _ _ us hl => match us, hl with | [_, _, _], _ => rfl), PySem.W.mg_of X G cg_Machine⟩
    ⟨_, _, fun_mk (st := s_Machine_enter) l17 c17 k17, ⟨a17, g17, k17⟩, (Fun.binds (ps := ["self", "row", "numbers", "room"]) (fun_mk (st := s_Machine_enter) l17 c17 k17) fun _ _ _ _ _ _ us hl => match us, hl with | [_, _, _, _], _ => rfl)⟩
    ⟨_, _, fun_mk (st := s_Machine_call) l18 c18 k18, ⟨a18, g18, k18⟩, (Fun.binds (ps := ["self", "row"]) (fun_mk (st := s_Machine_call) l18 c18 k18) fun _ _ _ _ _ _ us hl => match us, hl with | [_, _], _ => rfl)⟩
    ⟨_, _, fun_mk (st := s_Machine_work) l19 c19 k19, ⟨a19, g19, k19⟩, (Fun.binds (ps := ["self"]) (fun_mk (st := s_Machine_work) l19 c19 k19) fun _ _ _ _ _ _ us hl => match us, hl with | [_], _ => rfl)⟩
    ⟨⟨cp_Code, ch_Code, co_Code, cs_Code⟩, n_Code_rows, n_Code_starts⟩
    ⟨_, _, fun_mk (st := s_Code_init) l20 c20 k20, ⟨cm_Code, a20, g20, ck_Code⟩, (Fun.binds (ps := ["self", "rows", "starts"]) (fun_mk (st := s_Code_init) l20 c20 k20) fun _ _ _ _ _ _ us hl => match us, hl with | [_, _, _], _ => rfl), PySem.W.mg_of X G cg_Code⟩
end CS
open PySem PySem.W PyProof.Rows
set_option maxRecDepth 100000 in
set_option maxHeartbeats 0 in
theorem PySem.Challenge.cw_callsmith_k06_rows_done_holds : PySem.Challenge.rw_callsmith_k06_rows_done.Holds := by
  w_on; o_law; k_head; (case hw => w_witness2)
  k_fill
  refine CS.walk_csX (Rel := CS.RLaw) (d := 6) (k := 52) (l := PySem.Challenge.rw_callsmith_k06_rows_done) rfl rfl (by decide) (by decide) ⟨rfl, by decide, by decide⟩ (fun w h Y => PySem.W.kIn_of Y) ?F (fun ns h => CS.RLaw.mk ns h)
  case F =>
    intro w mg fa h KX G hmg
    refine' CS.all_mk KX G hmg ?cg_Machine ?cp_Machine ?ch_Machine ?co_Machine ?cs_Machine ?cm_Machine ?ck_Machine ?n_Machine_rows ?n_Machine_fuel ?n_Machine_made ?n_Machine_at ?n_Machine_stack ?n_Machine_frames ?cg_Code ?cp_Code ?ch_Code ?co_Code ?cs_Code ?cm_Code ?ck_Code ?n_Code_rows ?n_Code_starts ?a1 ?l1 ?c1 ?k1 ?a2 ?l2 ?c2 ?k2 ?a3 ?l3 ?c3 ?k3 ?a4 ?l4 ?c4 ?k4 ?a5 ?l5 ?c5 ?k5 ?a6 ?l6 ?c6 ?k6 ?a7 ?l7 ?c7 ?k7 ?a8 ?l8 ?c8 ?k8 ?a9 ?l9 ?c9 ?k9 ?a10 ?l10 ?c10 ?k10 ?a11 ?l11 ?c11 ?k11 ?a12 ?l12 ?c12 ?k12 ?a13 ?l13 ?c13 ?k13 ?a14 ?l14 ?c14 ?k14 ?a15 ?l15 ?c15 ?k15 ?a16 ?g16 ?l16 ?c16 ?k16 ?a17 ?g17 ?l17 ?c17 ?k17 ?a18 ?g18 ?l18 ?c18 ?k18 ?a19 ?g19 ?l19 ?c19 ?k19 ?a20 ?g20 ?l20 ?c20 ?k20 ?z0 ?z1 ?z2 ?z3 ?z4 ?z5 ?z6 ?z7 ?z8 ?z9 ?z10 ?i_MOST ?i_DEEPEST ?xg_NoSuchFunction ?xq_NoSuchFunction ?xk_NoSuchFunction ?xb_NoSuchFunction ?xt_NoSuchFunction ?xh_NoSuchFunction ?xg_WrongCount ?xq_WrongCount ?xk_WrongCount ?xb_WrongCount ?xt_WrongCount ?xh_WrongCount ?xg_ByNought ?xq_ByNought ?xk_ByNought ?xb_ByNought ?xt_ByNought ?xh_ByNought ?xg_TooGreat ?xq_TooGreat ?xk_TooGreat ?xb_TooGreat ?xt_TooGreat ?xh_TooGreat ?xg_TooDeep ?xq_TooDeep ?xk_TooDeep ?xb_TooDeep ?xt_TooDeep ?xh_TooDeep ?xg_Dry ?xq_Dry ?xk_Dry ?xb_Dry ?xt_Dry ?xh_Dry ?s_ByNought_ByNought ?s_ByNought_TooGreat ?s_ByNought_TooDeep ?s_ByNought_Dry ?s_TooGreat_ByNought ?s_TooGreat_TooGreat ?s_TooGreat_TooDeep ?s_TooGreat_Dry ?s_TooDeep_ByNought ?s_TooDeep_TooGreat ?s_TooDeep_TooDeep ?s_TooDeep_Dry ?s_Dry_ByNought ?s_Dry_TooGreat ?s_Dry_TooDeep ?s_Dry_Dry
    (case cg_Machine => k_is)
    (case cp_Machine => k_is)
    (case ch_Machine => k_is)
    (case co_Machine => k_is)
    (case cs_Machine => k_is)
    (case cm_Machine => k_is)
    (case ck_Machine => k_is)
    (case n_Machine_rows => k_is)
    (case n_Machine_fuel => k_is)
    (case n_Machine_made => k_is)
    (case n_Machine_at => k_is)
    (case n_Machine_stack => k_is)
    (case n_Machine_frames => k_is)
    (case cg_Code => k_is)
    (case cp_Code => k_is)
    (case ch_Code => k_is)
    (case co_Code => k_is)
    (case cs_Code => k_is)
    (case cm_Code => k_is)
    (case ck_Code => k_is)
    (case n_Code_rows => k_is)
    (case n_Code_starts => k_is)
    (case a1 => k_is)
    (case l1 => k_is)
    (case c1 => k_is)
    (case k1 => k_is)
    (case a2 => k_is)
    (case l2 => k_is)
    (case c2 => k_is)
    (case k2 => k_is)
    (case a3 => k_is)
    (case l3 => k_is)
    (case c3 => k_is)
    (case k3 => k_is)
    (case a4 => k_is)
    (case l4 => k_is)
    (case c4 => k_is)
    (case k4 => k_is)
    (case a5 => k_is)
    (case l5 => k_is)
    (case c5 => k_is)
    (case k5 => k_is)
    (case a6 => k_is)
    (case l6 => k_is)
    (case c6 => k_is)
    (case k6 => k_is)
    (case a7 => k_is)
    (case l7 => k_is)
    (case c7 => k_is)
    (case k7 => k_is)
    (case a8 => k_is)
    (case l8 => k_is)
    (case c8 => k_is)
    (case k8 => k_is)
    (case a9 => k_is)
    (case l9 => k_is)
    (case c9 => k_is)
    (case k9 => k_is)
    (case a10 => k_is)
    (case l10 => k_is)
    (case c10 => k_is)
    (case k10 => k_is)
    (case a11 => k_is)
    (case l11 => k_is)
    (case c11 => k_is)
    (case k11 => k_is)
    (case a12 => k_is)
    (case l12 => k_is)
    (case c12 => k_is)
    (case k12 => k_is)
    (case a13 => k_is)
    (case l13 => k_is)
    (case c13 => k_is)
    (case k13 => k_is)
    (case a14 => k_is)
    (case l14 => k_is)
    (case c14 => k_is)
    (case k14 => k_is)
    (case a15 => k_is)
    (case l15 => k_is)
    (case c15 => k_is)
    (case k15 => k_is)
    (case a16 => k_is)
    (case g16 => k_is)
    (case l16 => k_is)
    (case c16 => k_is)
    (case k16 => k_is)
    (case a17 => k_is)
    (case g17 => k_is)
    (case l17 => k_is)
    (case c17 => k_is)
    (case k17 => k_is)
    (case a18 => k_is)
    (case g18 => k_is)
    (case l18 => k_is)
    (case c18 => k_is)
    (case k18 => k_is)
    (case a19 => k_is)
    (case g19 => k_is)
    (case l19 => k_is)
    (case c19 => k_is)
    (case k19 => k_is)
    (case a20 => k_is)
    (case g20 => k_is)
    (case l20 => k_is)
    (case c20 => k_is)
    (case k20 => k_is)
    (case z0 => k_is)
    (case z1 => k_is)
    (case z2 => k_is)
    (case z3 => k_is)
    (case z4 => k_is)
    (case z5 => k_is)
    (case z6 => k_is)
    (case z7 => k_is)
    (case z8 => k_is)
    (case z9 => k_is)
    (case z10 => k_is)
    (case i_MOST => k_is)
    (case i_DEEPEST => k_is)
    (case xg_NoSuchFunction => k_is)
    (case xq_NoSuchFunction => k_exc)
    (case xk_NoSuchFunction => k_is)
    (case xb_NoSuchFunction => k_is)
    (case xt_NoSuchFunction => k_is)
    (case xh_NoSuchFunction => k_is)
    (case xg_WrongCount => k_is)
    (case xq_WrongCount => k_exc)
    (case xk_WrongCount => k_is)
    (case xb_WrongCount => k_is)
    (case xt_WrongCount => k_is)
    (case xh_WrongCount => k_is)
    (case xg_ByNought => k_is)
    (case xq_ByNought => k_exc)
    (case xk_ByNought => k_is)
    (case xb_ByNought => k_is)
    (case xt_ByNought => k_is)
    (case xh_ByNought => k_is)
    (case xg_TooGreat => k_is)
    (case xq_TooGreat => k_exc)
    (case xk_TooGreat => k_is)
    (case xb_TooGreat => k_is)
    (case xt_TooGreat => k_is)
    (case xh_TooGreat => k_is)
    (case xg_TooDeep => k_is)
    (case xq_TooDeep => k_exc)
    (case xk_TooDeep => k_is)
    (case xb_TooDeep => k_is)
    (case xt_TooDeep => k_is)
    (case xh_TooDeep => k_is)
    (case xg_Dry => k_is)
    (case xq_Dry => k_exc)
    (case xk_Dry => k_is)
    (case xb_Dry => k_is)
    (case xt_Dry => k_is)
    (case xh_Dry => k_is)
    (case s_ByNought_ByNought => k_is)
    (case s_ByNought_TooGreat => k_is)
    (case s_ByNought_TooDeep => k_is)
    (case s_ByNought_Dry => k_is)
    (case s_TooGreat_ByNought => k_is)
    (case s_TooGreat_TooGreat => k_is)
    (case s_TooGreat_TooDeep => k_is)
    (case s_TooGreat_Dry => k_is)
    (case s_TooDeep_ByNought => k_is)
    (case s_TooDeep_TooGreat => k_is)
    (case s_TooDeep_TooDeep => k_is)
    (case s_TooDeep_Dry => k_is)
    (case s_Dry_ByNought => k_is)
    (case s_Dry_TooGreat => k_is)
    (case s_Dry_TooDeep => k_is)
    (case s_Dry_Dry => k_is)
#print axioms PySem.Challenge.cw_callsmith_k06_rows_done_holds

