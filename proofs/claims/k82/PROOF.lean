import PyProof.Rows.All
import Wide.All
import OpenK.AllK
import Wide.FinOn
import HandS.ForMost
import HandS.Exc
import HandS.TryOnly
import HandS.ExcOwn
import HandS.WordsExc
import HandS.TupAny
import HandS.SortInts
import HandS.Zip
import HandS.Wide
import HandS.Deep
import HandS.Style
import HandS.TupMul
import HandS.IsInst
import HandS.SetFor
import HandS.Set
import HandS.Strs
import HandS.Conv
import HandS.Rev
import HandS.Iter
import HandS.More
import HandS.TupSets
import HandS.HotCalls
import HandS.ExcIs
import PyProof.EqAt
import PyProof.MinMaxWalk
import HandS.NoneIn
import KE.SortData
import HandS.DictComp
import KE.GoesMore
import PyProof.NeKinds
import HandS.SetKeys
import PyProof.Rows.SortShell
import KE.DataMinMax
import PyProof.ReprRoads
import PyProof.ReprLen
import PyProof.CallFns
import HandS.EndBits
import KE.GoesEnum
import PyProof.SeqIndex
import KE.KDictZip
import KE.GoesComp
import PyProof.StrOps2
import PySem.Challenge.RW_fewsumlots_k82_no_texts
set_option Elab.async false
set_option linter.all false
set_option maxRecDepth 100000
set_option maxHeartbeats 4000000
namespace Fs
open PySem PySem.Spec PyProof.Rows L2
abbrev Sg := L2.St

/-! ### data without addresses -/
inductive D where
  | non | bl (b : Bool) | int (i : Int) | str (s : Str)
  | tup (l : List D) | lst (l : List D) | dct (l : List (Key × D)) | scr (ns : List Int) | dcz (l : List (Key × D)) | dtk (ks : List (List Int)) (l : List D)

/-- a tuple without a dict of its own: known to its object -/
def SqN (K : PySem.W.Frag) (H : Hp) (a : Addr) (xs : List V) : Prop :=
  (∃ o : Obj, o.dict = none ∧ H a = some (.frz o (.tup xs))) ∨
    ∃ (o : Obj) (its : Array Value) (n : Nat), K.lookup a = some o ∧ o.cls = .type "tuple" ∧ o.dict = none ∧ o.data = .seq its n ∧ its.size ≤ sizeLine ∧ Vals xs its.toList
theorem SqN.t {K : PySem.W.Frag} {H : Hp} {a : Addr} {xs : List V} (h : SqN K H a xs) : SqT K H a xs := by
  rcases h with ⟨o, _, h⟩ | ⟨o, its, n, h1, h2, _, h3, h4, h5⟩
  · exact .inl (.inr ⟨o, h⟩)
  · exact .inr ⟨o, its, n, h1, h2, h3, h4, h5⟩
theorem sameN {K : PySem.W.Frag} {H H' : Hp} {a : Addr} {xs : List V} (e : Same H H') (h : SqN K H a xs) : SqN K H' a xs := by
  rcases h with ⟨o, n, h⟩ | h
  · exact .inl ⟨o, n, e _ _ h⟩
  · exact .inr h
/-- a new tuple told -/
def NewT (H : Hp) (Q : VK) (xs : List V) : Prop := ∀ (p : Addr) (o : Obj), o.dict = none → H p = none → Q (.ref p) (upd H p (.frz o (.tup xs)))
theorem SqN.new {K : PySem.W.Frag} {H : Hp} {p : Addr} {o : Obj} {xs : List V} (n : o.dict = none) : SqN K (upd H p (.frz o (.tup xs))) p xs := .inl ⟨o, n, upd_same⟩
/-- a dict whose keys are tuples of whole numbers -/
def hashT (ks : List Int) : Int := reduceHash (Builtin.Tuple.tupleHashOf (ks.map hashInt))
def entT (x : List Int × Addr × Value) : DictEntry := ⟨hashT x.1, .ref x.2.1, x.2.2⟩
def TkAt (K : PySem.W.Frag) (F H : Hp) (b : Addr) (ks : List (List Int)) (us : List V) : Prop := ∃ (ob : Obj) (es : Array DictEntry) (ep : Nat) (ts : List (List Int × Addr × Value)), H b = some (.ext fun h => h.get? b = some ob) ∧ ob.ExactDict ∧ ob.data = .dict es ep ∧ es.toList = ts.map entT ∧
  ts.map (·.1) = ks ∧ ks.Nodup ∧ (b == sysModules) = false ∧ ks.length ≤ sizeLine ∧ (∀ t ∈ ts, SqN K F t.2.1 (t.1.map V.int)) ∧ Vals us (ts.map fun t => t.2.2)
theorem TkAt.mono {K : PySem.W.Frag} {F F' H H' : Hp} {b : Addr} {ks : List (List Int)} {us : List V} (f : Same F F') (h : H b = H' b) (x : TkAt K F H b ks us) : TkAt K F' H' b ks us := by
  obtain ⟨ob, es, ep, ts, q, r1, r2, r3, r4, r5, r6, r7, r8, r9⟩ := x
  exact ⟨ob, es, ep, ts, h.symm.trans q, r1, r2, r3, r4, r5, r6, r7, fun t ht => sameN f (r8 t ht), r9⟩
theorem TkAt.at_ {K : PySem.W.Frag} {F H : Hp} {b : Addr} {ks : List (List Int)} {us : List V} (x : TkAt K F H b ks us) : ∃ φ, H b = some (.ext φ) := by
  obtain ⟨ob, es, ep, xs, q, _⟩ := x
  exact ⟨_, q⟩
theorem TkAt.same {K : PySem.W.Frag} {F F' H H' : Hp} {b : Addr} {ks : List (List Int)} {us : List V} (f : Same F F') (h : Same H H') (x : TkAt K F H b ks us) : TkAt K F' H' b ks us := by
  obtain ⟨φ, e⟩ := x.at_
  exact x.mono f (e.trans (h _ _ e).symm)
mutual
inductive DR (K : PySem.W.Frag) (F : Hp) : V → D → Prop
  | non : DR K F .non .non
  | bl (b : Bool) : DR K F (.bl b) (.bl b)
  | int (i : Int) : DR K F (.int i) (.int i)
  | str (x : Str) : DR K F (.str x) (.str x)
  | tup {a : Addr} {xs : List V} {ds : List D} : SqN K F a xs → DRs K F xs ds → DR K F (.ref a) (.tup ds)
  | lst {a : Addr} {xs : List V} {ds : List D} : F a = some (.lst xs) → DRs K F xs ds → DR K F (.ref a) (.lst ds)
  | dct {a : Addr} {ks : List (Key × V)} {ds : List (Key × D)} : F a = some (.dK ks) → DRk K F ks ds → DR K F (.ref a) (.dct ds)
  | scr {a : Addr} {ns : List Int} : SqL K F a (ns.map V.int) → DR K F (.ref a) (.scr ns)
  | dcz {a : Addr} {o : Obj} {ks : List (Key × V)} {ds : List (Key × D)} : F a = some (.frz o (.dK ks)) → DRk K F ks ds → DR K F (.ref a) (.dcz ds)
  | dtk {a : Addr} {ks : List (List Int)} {us : List V} {ds : List D} : TkAt K F F a ks us → DRs K F us ds → DR K F (.ref a) (.dtk ks ds)
inductive DRs (K : PySem.W.Frag) (F : Hp) : List V → List D → Prop
  | nil : DRs K F [] []
  | cons {v : V} {vs : List V} {d : D} {ds : List D} : DR K F v d → DRs K F vs ds → DRs K F (v :: vs) (d :: ds)
inductive DRk (K : PySem.W.Frag) (F : Hp) : List (Key × V) → List (Key × D) → Prop
  | nil : DRk K F [] []
  | cons {k : Key} {v : V} {vs : List (Key × V)} {d : D} {ds : List (Key × D)} : DR K F v d → DRk K F vs ds → DRk K F ((k, v) :: vs) ((k, d) :: ds)
end

theorem sameT {K : PySem.W.Frag} {H H' : Hp} {a : Addr} {xs : List V} (e : Same H H') (h : SqT K H a xs) : SqT K H' a xs := by
  rcases h with (h | ⟨o, h⟩) | h
  · exact .inl (.inl (e _ _ h))
  · exact .inl (.inr ⟨o, e _ _ h⟩)
  · exact .inr h
section
variable {K : PySem.W.Frag} {F F' : Hp}
mutual
theorem DR.mono (e : Same F F') : ∀ {v : V} {d : D}, DR K F v d → DR K F' v d
  | _, _, .non => .non
  | _, _, .bl b => .bl b
  | _, _, .int b => .int b
  | _, _, .str b => .str b
  | _, _, .tup h r => .tup (sameN e h) (DRs.mono e r)
  | _, _, .lst h r => .lst (e _ _ h) (DRs.mono e r)
  | _, _, .dct h r => .dct (e _ _ h) (DRk.mono e r)
  | _, _, .scr h => .scr (e.seq h)
  | _, _, .dcz h r => .dcz (e _ _ h) (DRk.mono e r)
  | _, _, .dtk h r => .dtk (h.same e e) (DRs.mono e r)
theorem DRs.mono (e : Same F F') : ∀ {v : List V} {d : List D}, DRs K F v d → DRs K F' v d
  | _, _, .nil => .nil
  | _, _, .cons h r => .cons (DR.mono e h) (DRs.mono e r)
theorem DRk.mono (e : Same F F') : ∀ {v : List (Key × V)} {d : List (Key × D)}, DRk K F v d → DRk K F' v d
  | _, _, .nil => .nil
  | _, _, .cons h r => .cons (DR.mono e h) (DRk.mono e r)
end
theorem DRs.len : ∀ {xs : List V} {ds : List D}, DRs K F xs ds → xs.length = ds.length
  | _, _, .nil => rfl
  | _, _, .cons _ r => congrArg (· + 1) (DRs.len r)
theorem DRk.len : ∀ {xs : List (Key × V)} {ds : List (Key × D)}, DRk K F xs ds → xs.length = ds.length
  | _, _, .nil => rfl
  | _, _, .cons _ r => congrArg (· + 1) (DRk.len r)
theorem DRs.get : ∀ {xs : List V} {ds : List D} {i : Nat} {d : D}, DRs K F xs ds → ds[i]? = some d → ∃ x, xs[i]? = some x ∧ DR K F x d
  | _, _, _, _, .nil, e => by simp at e
  | _, _, 0, _, .cons r _, e => by simp at e; subst e; exact ⟨_, rfl, r⟩
  | _, _, i + 1, d, .cons _ t, e => by
    obtain ⟨u, h1, h2⟩ := DRs.get (i := i) (d := d) t (by simpa using e)
    exact ⟨u, by simpa using h1, h2⟩
theorem DRs.get' : ∀ {xs : List V} {ds : List D} {i : Nat} {x : V}, DRs K F xs ds → xs[i]? = some x → ∃ d, ds[i]? = some d ∧ DR K F x d
  | _, _, _, _, .nil, e => by simp at e
  | _, _, 0, _, .cons r _, e => by simp at e; subst e; exact ⟨_, rfl, r⟩
  | _, _, i + 1, d, .cons _ t, e => by
    obtain ⟨u, h1, h2⟩ := DRs.get' (i := i) (x := d) t (by simpa using e)
    exact ⟨u, by simpa using h1, h2⟩
theorem DRs.app : ∀ {xs ys : List V} {ds es : List D}, DRs K F xs ds → DRs K F ys es → DRs K F (xs ++ ys) (ds ++ es)
  | _, _, _, _, .nil, s => s
  | _, _, _, _, .cons r t, s => .cons r (DRs.app t s)
theorem DRs.take : ∀ {xs : List V} {ds : List D} (n : Nat), DRs K F xs ds → DRs K F (xs.take n) (ds.take n)
  | _, _, 0, _ => .nil
  | _, _, _ + 1, .nil => .nil
  | _, _, n + 1, .cons r t => .cons r (DRs.take n t)
theorem DRs.drop : ∀ {xs : List V} {ds : List D} (n : Nat), DRs K F xs ds → DRs K F (xs.drop n) (ds.drop n)
  | _, _, 0, r => r
  | _, _, _ + 1, .nil => .nil
  | _, _, n + 1, .cons _ t => DRs.drop n t
theorem DRs.set {x : V} {d : D} (r : DR K F x d) : ∀ {xs : List V} {ds : List D} (i : Nat), DRs K F xs ds → DRs K F (xs.set i x) (ds.set i d)
  | _, _, _, .nil => .nil
  | _, _, 0, .cons _ t => .cons r t
  | _, _, i + 1, .cons q t => .cons q (DRs.set r i t)
theorem DRs.rep {xs : List V} {ds : List D} (h : DRs K F xs ds) : ∀ k : Nat, DRs K F (List.replicate k xs).flatten (List.replicate k ds).flatten
  | 0 => .nil
  | k + 1 => by
    rw [List.replicate_succ, List.replicate_succ, List.flatten_cons, List.flatten_cons]
    exact h.app (DRs.rep h k)
theorem DRs.erase : ∀ {xs : List V} {ds : List D} (n : Nat), DRs K F xs ds → DRs K F (xs.eraseIdx n) (ds.eraseIdx n)
  | _, _, _, .nil => .nil
  | _, _, 0, .cons _ t => t
  | _, _, n + 1, .cons r t => .cons r (DRs.erase n t)
theorem DRs.ints : ∀ {xs : List V} {ns : List Int}, DRs K F xs (ns.map D.int) → xs = ns.map V.int
  | _, [], .nil => rfl
  | _, n :: ns, .cons h r => by
    cases h
    rw [DRs.ints r]
    rfl
theorem DRs.of_ints : ∀ (ns : List Int), DRs K F (ns.map V.int) (ns.map D.int)
  | [] => .nil
  | n :: ns => .cons (.int n) (DRs.of_ints ns)
theorem DRs.bls : ∀ {xs : List V} {ns : List Bool}, DRs K F xs (ns.map D.bl) → xs = ns.map V.bl
  | _, [], .nil => rfl
  | _, n :: ns, .cons h r => by
    cases h
    rw [DRs.bls r]
    rfl
theorem DRs.of_bls : ∀ (ns : List Bool), DRs K F (ns.map V.bl) (ns.map D.bl)
  | [] => .nil
  | n :: ns => .cons (.bl n) (DRs.of_bls ns)
theorem DRs.strs : ∀ {xs : List V} {ns : List Str}, DRs K F xs (ns.map D.str) → xs = ns.map V.str
  | _, [], .nil => rfl
  | _, n :: ns, .cons h r => by
    cases h
    rw [DRs.strs r]
    rfl
theorem DRs.of_strs : ∀ (ns : List Str), DRs K F (ns.map V.str) (ns.map D.str)
  | [] => .nil
  | n :: ns => .cons (.str n) (DRs.of_strs ns)
end

/-! ### results, environments -/
inductive Out (α : Type) where
  | ok (a : α) | ex (c : String) | st
inductive R where
  | cl (d : D) | ow (d : D) | bo (d : D)
def R.d : R → D
  | .cl d => d
  | .ow d => d
  | .bo d => d
inductive Slot where
  | un | sh (d : D) | ow (d : D) | exc (a : Addr)
abbrev Env := List Slot

/-- what an own object holds -/
def OwnAs (K : PySem.W.Frag) (F H : Hp) (l : Addr) : D → Prop
  | .lst ds => ∃ xs, H l = some (.lst xs) ∧ DRs K F xs ds
  | .dct ds => ∃ ks, H l = some (.dK ks) ∧ DRk K F ks ds
  | .dtk ks ds => ∃ us, TkAt K F H l ks us ∧ DRs K F us ds
  | _ => False
def Own (K : PySem.W.Frag) (F H : Hp) (l : Addr) (d : D) : Prop := F l = none ∧ OwnAs K F H l d
def RV (K : PySem.W.Frag) (F H0 H : Hp) (v : V) : R → Prop
  | .cl d => DR K F v d
  | .ow d => ∃ l, v = .ref l ∧ H0 l = none ∧ Own K F H l d
  | .bo d => ∃ l, v = .ref l ∧ Own K F H l d
/-- what may be read of a value -/
def DV (K : PySem.W.Frag) (F H : Hp) (v : V) (d : D) : Prop := DR K F v d ∨ ∃ l, v = .ref l ∧ OwnAs K F H l d

structure Ext (F H F' H' : Hp) : Prop where
  hh : Same H H'
  ff : Same F F'
  fh : Same F' H'
  nw : ∀ a o, F' a = some o → H a = none ∨ F a = some o
theorem Ext.refl {F H : Hp} (s : Same F H) : Ext F H F H := ⟨.refl _, .refl _, s, fun _ _ h => .inr h⟩
theorem Ext.trans {F H F1 H1 F2 H2 : Hp} (a : Ext F H F1 H1) (b : Ext F1 H1 F2 H2) : Ext F H F2 H2 :=
  ⟨a.hh.trans b.hh, a.ff.trans b.ff, b.fh, fun c o h => (b.nw c o h).elim (fun z => .inl (a.hh.free z)) fun z => a.nw c o z⟩
/-- a new object, frozen -/
theorem Ext.new {F H : Hp} (s : Same F H) {p : Addr} {o : HO} (n : H p = none) : Ext F H (upd F p o) (upd H p o) := by
  have nf : F p = none := s.free n
  refine ⟨fun b u e => ?_, fun b u e => ?_, fun b u e => ?_, fun b u e => ?_⟩
  · rw [upd_ne (ne_of_none e n)]; exact e
  · rw [upd_ne (ne_of_none e nf)]; exact e
  · by_cases hb : b = p
    · subst hb; rw [upd_same] at e ⊢; exact e
    · rw [upd_ne hb] at e ⊢; exact s _ _ e
  · by_cases hb : b = p
    · subst hb; exact .inl n
    · rw [upd_ne hb] at e; exact .inr e
/-- a new object, not frozen -/
theorem Ext.newO {F H : Hp} (s : Same F H) {p : Addr} {o : HO} (n : H p = none) : Ext F H F (upd H p o) := by
  have z : Same H (upd H p o) := fun b u e => by rw [upd_ne (ne_of_none e n)]; exact e
  exact ⟨z, .refl _, s.trans z, fun _ _ h => .inr h⟩
/-- an own object (new since H0) is frozen -/
theorem Ext.frz {F H0 H : Hp} (s : Same F H) {l : Addr} {o : HO} (f : F l = none) (h : H l = some o) (n : H0 l = none) (hh : Same H0 H) (F0 : Hp) (e : Ext F0 H0 F H) : Ext F0 H0 (upd F l o) H := by
  refine ⟨hh, fun b u q => ?_, fun b u q => ?_, fun b u q => ?_⟩
  · rw [upd_ne (ne_of_none (e.ff _ _ q) f)]; exact e.ff _ _ q
  · by_cases hb : b = l
    · subst hb; rw [upd_same] at q; rw [h]; exact q
    · rw [upd_ne hb] at q; exact s _ _ q
  · by_cases hb : b = l
    · subst hb; exact .inl n
    · rw [upd_ne hb] at q; exact e.nw _ _ q
section
variable {K : PySem.W.Frag} {F F' H0 H H' : Hp} {v : V} {d : D} {r : R} {l : Addr}
theorem Ext.own (e : Ext F H F' H') (o : Own K F H l d) : Own K F' H' l d := by
  obtain ⟨f, o⟩ := o
  have hl : ∃ u, H l = some u := by
    cases d <;> first | exact (False.elim o) | (obtain ⟨_, q, _⟩ := o; exact ⟨_, q⟩) | (obtain ⟨_, q, _⟩ := o; obtain ⟨_, q⟩ := q.at_; exact ⟨_, q⟩)
  obtain ⟨u, hu⟩ := hl
  refine ⟨?_, ?_⟩
  · cases q : F' l with
    | none => rfl
    | some z =>
      rcases e.nw _ _ q with y | y
      · rw [hu] at y; cases y
      · rw [f] at y; cases y
  · cases d <;> first | exact (False.elim o) | skip
    · obtain ⟨xs, q, r⟩ := o
      exact ⟨xs, e.hh _ _ q, r.mono e.ff⟩
    · obtain ⟨xs, q, r⟩ := o
      exact ⟨xs, e.hh _ _ q, r.mono e.ff⟩
    · obtain ⟨xs, q, r⟩ := o
      exact ⟨xs, q.same e.ff e.hh, r.mono e.ff⟩
theorem Ext.dv (e : Ext F H F' H') (o : DV K F H v d) : DV K F' H' v d := by
  rcases o with o | ⟨l, rfl, o⟩
  · exact .inl (o.mono e.ff)
  · refine .inr ⟨l, rfl, ?_⟩
    cases d <;> first | exact (False.elim o) | skip
    · obtain ⟨xs, q, r⟩ := o
      exact ⟨xs, e.hh _ _ q, r.mono e.ff⟩
    · obtain ⟨xs, q, r⟩ := o
      exact ⟨xs, e.hh _ _ q, r.mono e.ff⟩
    · obtain ⟨xs, q, r⟩ := o
      exact ⟨xs, q.same e.ff e.hh, r.mono e.ff⟩
theorem RV.dv (h : RV K F H0 H v r) : DV K F H v r.d := by
  cases r with
  | cl d => exact .inl h
  | ow d => obtain ⟨l, rfl, _, _, o⟩ := h; exact .inr ⟨l, rfl, o⟩
  | bo d => obtain ⟨l, rfl, _, o⟩ := h; exact .inr ⟨l, rfl, o⟩
theorem RV.back {H1 : Hp} (s : Same H1 H0) (h : RV K F H0 H v r) : RV K F H1 H v r := by
  cases r with
  | cl d => exact h
  | ow d => obtain ⟨l, rfl, n, o⟩ := h; exact ⟨l, rfl, s.free n, o⟩
  | bo d => exact h
theorem RV.ext (e : Ext F H F' H') (h : RV K F H0 H v r) : RV K F' H0 H' v r := by
  cases r with
  | cl d => exact DR.mono e.ff h
  | ow d => obtain ⟨l, rfl, n, o⟩ := h; exact ⟨l, rfl, n, e.own o⟩
  | bo d => obtain ⟨l, rfl, o⟩ := h; exact ⟨l, rfl, e.own o⟩
/-- reading a list, a tuple, a dict -/
theorem DV.lst {ds : List D} (s : Same F H) (h : DV K F H v (.lst ds)) : ∃ l xs, v = .ref l ∧ H l = some (.lst xs) ∧ DRs K F xs ds := by
  rcases h with h | ⟨l, rfl, xs, q, r⟩
  · cases h with
    | lst q r => exact ⟨_, _, rfl, s _ _ q, r⟩
  · exact ⟨l, xs, rfl, q, r⟩
theorem DV.dct {ds : List (Key × D)} (s : Same F H) (h : DV K F H v (.dct ds)) : ∃ l xs, v = .ref l ∧ H l = some (.dK xs) ∧ DRk K F xs ds := by
  rcases h with h | ⟨l, rfl, xs, q, r⟩
  · cases h with
    | dct q r => exact ⟨_, _, rfl, s _ _ q, r⟩
  · exact ⟨l, xs, rfl, q, r⟩
theorem DV.dcz {ds : List (Key × D)} (s : Same F H) (h : DV K F H v (.dcz ds)) : ∃ l o xs, v = .ref l ∧ H l = some (.frz o (.dK xs)) ∧ DRk K F xs ds := by
  rcases h with h | ⟨l, rfl, o⟩
  · cases h with
    | dcz q r => exact ⟨_, _, _, rfl, s _ _ q, r⟩
  · exact o.elim
theorem DV.tup {ds : List D} (s : Same F H) (h : DV K F H v (.tup ds)) : ∃ l xs, v = .ref l ∧ SqT K H l xs ∧ DRs K F xs ds := by
  rcases h with h | ⟨l, rfl, o⟩
  · cases h with
    | tup q r => exact ⟨_, _, rfl, sameT s q.t, r⟩
  · exact o.elim
theorem DV.scr {ns : List Int} (s : Same F H) (h : DV K F H v (.scr ns)) : ∃ l, v = .ref l ∧ SqL K H l (ns.map V.int) := by
  rcases h with h | ⟨l, rfl, o⟩
  · cases h with
    | scr q => exact ⟨_, rfl, s.seq q⟩
  · exact o.elim
theorem DV.int {i : Int} (h : DV K F H v (.int i)) : v = .int i := by
  rcases h with h | ⟨l, rfl, o⟩
  · cases h; rfl
  · exact o.elim
theorem DV.bl {i : Bool} (h : DV K F H v (.bl i)) : v = .bl i := by
  rcases h with h | ⟨l, rfl, o⟩
  · cases h; rfl
  · exact o.elim
theorem DV.str {i : Str} (h : DV K F H v (.str i)) : v = .str i := by
  rcases h with h | ⟨l, rfl, o⟩
  · cases h; rfl
  · exact o.elim
theorem DV.non (h : DV K F H v .non) : v = .non := by
  rcases h with h | ⟨l, rfl, o⟩
  · cases h; rfl
  · exact o.elim
/-- is a scalar -/
def D.sc : D → Bool
  | .non => true
  | .bl _ => true
  | .int _ => true
  | .str _ => true
  | _ => false
theorem DR.sc {F2 : Hp} (h : DR K F v d) (s : d.sc = true) : DR K F2 v d := by
  cases h <;> first | (cases s; done) | exact .non | exact .bl _ | exact .int _ | exact .str _
end

/-- the frame's slots -/
structure Rel (K : PySem.W.Frag) (F H : Hp) (σ : Sg) (env : Env) : Prop where
  sub : Same F H
  len : σ.length = env.length
  sh : ∀ (i : Nat) d, env[i]? = some (.sh d) → ∃ v, σ[i]? = some (some v) ∧ DR K F v d
  ow : ∀ (i : Nat) d, env[i]? = some (.ow d) → ∃ l, σ[i]? = some (some (.ref l)) ∧ Own K F H l d
  sep : ∀ (i j : Nat) d e l, env[i]? = some (.ow d) → env[j]? = some (.ow e) → σ[i]? = some (some (.ref l)) → σ[j]? = some (some (.ref l)) → i = j
  ex : ∀ (i : Nat) a, env[i]? = some (.exc a) → σ[i]? = some (some (.ref a))
theorem Rel.ext {K : PySem.W.Frag} {F H F' H' : Hp} {σ : Sg} {env : Env} (r : Rel K F H σ env) (e : Ext F H F' H') : Rel K F' H' σ env :=
  ⟨e.fh, r.len, fun i d q => let ⟨v, a, b⟩ := r.sh i d q; ⟨v, a, b.mono e.ff⟩, fun i d q => let ⟨l, a, b⟩ := r.ow i d q; ⟨l, a, e.own b⟩, r.sep, r.ex⟩

/-! ### expressions -/
abbrev Sx := Env → Out R
/-- what is asked of a result -/
def okE (K : PySem.W.Frag) (mg : Str → Option Value) (W : WX) (F H : Hp) (σ : Sg) (Q : VK) : Out R → Prop
  | .ok r => ∀ F' H' v, Ext F H F' H' → RV K F' H H' v r → Q v H'
  | .ex c => ∀ F' H' cls, Ext F H F' H' → mg (Str.ofString c) = some cls → W cls none σ H'
  | .st => False
def tE (K : PySem.W.Frag) (mg : Str → Option Value) (W : WX) (f : Sx) : TE := fun σ H Q => ∃ F env, Rel K F H σ env ∧ okE K mg W F H σ Q (f env)
/-- the expression e means f -/
def EV (X : Cx) (W : WX) (e : Expr) (f : Sx) : Prop := PE X e (tE X.K X.mg W f)
theorem _root_.L2.PE.imp {X : Cx} {e : Expr} {t t' : TE} (h : PE X e t) (k : ∀ σ H Q, t' σ H Q → t σ H Q) : PE X e t' := ⟨fun pins s σ H Q I q => h.run pins s σ H Q I (k _ _ _ q)⟩
theorem _root_.L2.PT.imp {X : Cx} {e : Expr} {t t' : TT} (h : PT X e t) (k : ∀ σ H Q, t' σ H Q → t σ H Q) : PT X e t' := ⟨fun pins s σ H Q I q => h.run pins s σ H Q I (k _ _ _ q)⟩
theorem _root_.L2.PW.imp {X : Cx} {e : Expr} {t t' : TT} (h : PW X e t) (k : ∀ σ H Q, t' σ H Q → t σ H Q) : PW X e t' := ⟨fun wh pins s σ H Q I q => h.run wh pins s σ H Q I (k _ _ _ q)⟩
theorem _root_.L2.PA.imp {X : Cx} {e : List Expr} {t t' : TA} (h : PA X e t) (k : ∀ σ H Q, t' σ H Q → t σ H Q) : PA X e t' := ⟨fun wh pins s σ H Q I q => h.run wh pins s σ H Q I (k _ _ _ q)⟩
theorem _root_.L2.PS.imp {X : Cx} {e : Stmt} {t t' : TS} (h : PS X e t) (k : ∀ D σ H, t' D σ H → t D σ H) : PS X e t' := ⟨fun pins s σ H Q I q => h.run pins s σ H Q I (k _ _ _ q)⟩
theorem _root_.L2.PSs.imp {X : Cx} {e : List Stmt} {t t' : TS} (h : PSs X e t) (k : ∀ D σ H, t' D σ H → t D σ H) : PSs X e t' := ⟨fun pins s σ H Q I q => h.run pins s σ H Q I (k _ _ _ q)⟩
theorem _root_.L2.PI.imp {X : Cx} {tg e : Expr} {t t' : TI} (h : PI X tg e t) (k : ∀ σ H Q, t' σ H Q → t σ H Q) : PI X tg e t' := ⟨fun pins s σ H Q I q => h.run pins s σ H Q I (k _ _ _ q)⟩
theorem okE.mono {K : PySem.W.Frag} {mg : Str → Option Value} {W : WX} {F H : Hp} {σ : Sg} {Q Q' : VK} {o : Out R} (h : okE K mg W F H σ Q o) (k : ∀ v H', Q v H' → Q' v H') : okE K mg W F H σ Q' o := by
  cases o with
  | ok r => exact fun F' H' v e q => k _ _ (h F' H' v e q)
  | ex c => exact h
  | st => exact h

def eVar (i : Nat) : Sx := fun env => match env[i]? with
  | some (.sh d) => .ok (.cl d)
  | some (.ow d) => .ok (.bo d)
  | _ => .st
def eC (d : D) : Sx := fun _ => .ok (.cl d)
section
variable {X : Cx} {W : WX} {pos : Pos}
theorem ev_var (i : Nat) {x : Str} {pos : Pos} (hN : X.N[i]? = some x := by rfl) (hv : Vis X.env.scope x := by first | exact Or.inl rfl | exact Or.inr (Or.inl rfl) | exact Or.inr (Or.inr rfl)) (hd : (x == ("__debug__" : Str)) = false := by decide)
    (hcd : (x == ("__classdict__" : Str)) = false := by decide) : EV X W (.Name x pos) (eVar i) := by
  refine (pe_var hN hv hd hcd).imp fun σ H Q h => ?_
  obtain ⟨F, env, r, h⟩ := h
  unfold eVar at h
  cases e : env[i]? with
  | none => rw [e] at h; exact h.elim
  | some s =>
    rw [e] at h
    cases s with
    | un => exact h.elim
    | exc _ => exact h.elim
    | sh d =>
      obtain ⟨v, a, b⟩ := r.sh i d e
      exact ⟨v, a, h F H v (.refl r.sub) b⟩
    | ow d =>
      obtain ⟨l, a, b⟩ := r.ow i d e
      exact ⟨.ref l, a, h F H _ (.refl r.sub) ⟨l, rfl, b⟩⟩
theorem ev_const {e : Expr} {v : V} {d : D} (h : PE X e (tC v)) (hd : ∀ K F, DR K F v d) : EV X W e (eC d) := by
  refine h.imp fun σ H Q h => ?_
  obtain ⟨F, env, r, h⟩ := h
  exact h F H v (.refl r.sub) (hd _ _)
theorem ev_int {i : Int} {j : Nat} : EV X W (.Constant (.int i) j pos) (eC (.int i)) := ev_const pe_int fun _ _ => .int i
theorem ev_bl {i : Bool} {j : Nat} : EV X W (.Constant (.bool i) j pos) (eC (.bl i)) := ev_const pe_bl fun _ _ => .bl i
theorem ev_non {j : Nat} : EV X W (.Constant .none j pos) (eC .non) := ev_const pe_non fun _ _ => .non
theorem ev_str {i : Str} {j : Nat} : EV X W (.Constant (.str i) j pos) (eC (.str i)) := ev_const pe_str fun _ _ => .str i
/-- a module's constant that is an int or a text -/
theorem ev_globI {x : Str} {i : Int} {t : Tok} (hg : Gl X x) (hm : X.mg x = some (.int i t)) (hd : (x == ("__debug__" : Str)) = false := by decide) : EV X W (.Name x pos) (eC (.int i)) := ev_const (v := .int i) (pe_glob hg hm ⟨_, rfl⟩ hd) fun _ _ => .int i
theorem ev_globS {x : Str} {i : Str} {t : Tok} (hg : Gl X x) (hm : X.mg x = some (.str i t)) (hd : (x == ("__debug__" : Str)) = false := by decide) : EV X W (.Name x pos) (eC (.str i)) := ev_const (v := .str i) (pe_glob hg hm ⟨_, rfl⟩ hd) fun _ _ => .str i

/-! ### one and two operands -/
def e1 (φ : D → Out R) (f : Sx) : Sx := fun env => match f env with
  | .ok r => φ r.d
  | .ex c => .ex c
  | .st => .st
def e2 (φ : D → D → Out R) (f g : Sx) : Sx := fun env => match f env with
  | .ok r => (match g env with
    | .ok q => φ r.d q.d
    | .ex c => .ex c
    | .st => .st)
  | .ex c => .ex c
  | .st => .st
/-- what an operation on values answers -/
def okV (K : PySem.W.Frag) (F H : Hp) (Q : VK) : Out R → Prop
  | .ok r => ∀ F' H' v, Ext F H F' H' → RV K F' H H' v r → Q v H'
  | _ => False
def Op1 (K : PySem.W.Frag) (r : V → Hp → VK → Prop) (φ : D → Out R) : Prop := ∀ F H x a Q, Same F H → DV K F H x a → okV K F H Q (φ a) → r x H Q
def Op2 (K : PySem.W.Frag) (r : R2) (φ : D → D → Out R) : Prop := ∀ F H x y a b Q, Same F H → DV K F H x a → DV K F H y b → okV K F H Q (φ a b) → r x y H Q
/-- no op raises -/
def noEx : Out R → Prop
  | .ex _ => False
  | _ => True
variable {K : PySem.W.Frag} {mg : Str → Option Value}
theorem okE_okV {F H F1 H1 : Hp} {σ : Sg} {Q : VK} {o : Out R} (e : Ext F H F1 H1) (n : noEx o) (h : okE K mg W F H σ Q o) : okV K F1 H1 Q o := by
  cases o with
  | ok r => exact fun F' H' v e' q => h F' H' v (e.trans e') (q.back e.hh)
  | ex c => exact n.elim
  | st => exact h
theorem t1_of {r : V → Hp → VK → Prop} {φ : D → Out R} {f : Sx} (o : Op1 K r φ) (n : ∀ a, noEx (φ a)) {σ : Sg} {H : Hp} {Q : VK} (h : tE K mg W (e1 φ f) σ H Q) : tE K mg W f σ H fun x H1 => r x H1 Q := by
  obtain ⟨F, env, rl, h⟩ := h
  refine ⟨F, env, rl, ?_⟩
  unfold e1 at h
  cases e : f env with
  | ok ra =>
    rw [e] at h
    intro F1 H1 v x q
    exact o F1 H1 v _ Q x.fh q.dv (okE_okV x (n _) h)
  | ex c => rw [e] at h; exact h
  | st => rw [e] at h; exact h
theorem t2_of {r : R2} {φ : D → D → Out R} {f g : Sx} (o : Op2 K r φ) (n : ∀ a b, noEx (φ a b)) {σ : Sg} {H : Hp} {Q : VK} (h : tE K mg W (e2 φ f g) σ H Q) : tE K mg W f σ H fun x H1 => tE K mg W g σ H1 fun y H2 => r x y H2 Q := by
  obtain ⟨F, env, rl, h⟩ := h
  refine ⟨F, env, rl, ?_⟩
  unfold e2 at h
  cases e : f env with
  | ok ra =>
    rw [e] at h
    intro F1 H1 v x q
    refine ⟨F1, env, rl.ext x, ?_⟩
    cases e' : g env with
    | ok rb =>
      have h' : okE K mg W F H σ Q (φ ra.d rb.d) := by
        have hh := h
        simp only [e'] at hh
        exact hh
      intro F2 H2 v2 x2 q2
      exact o F2 H2 v v2 _ _ Q x2.fh (x2.dv q.dv) q2.dv (okE_okV (x.trans x2) (n _ _) h')
    | ex c =>
      have h' : okE K mg W F H σ Q (.ex c) := by
        have hh := h
        simp only [e'] at hh
        exact hh
      exact fun F2 H2 cls x2 m => h' F2 H2 cls (x.trans x2) m
    | st =>
      have h' : okE K mg W F H σ Q .st := by
        have hh := h
        simp only [e'] at hh
        exact hh
      exact h'
  | ex c => rw [e] at h; exact h
  | st => rw [e] at h; exact h
theorem ev_un {op : UnaryOp} {a : Expr} {r : V → Hp → VK → Prop} {φ : D → Out R} {f : Sx} (ho : UnR X (unaryOp op) r) (o : Op1 X.K r φ) (n : ∀ a, noEx (φ a)) (ha : EV X W a f) : EV X W (.UnaryOp op a pos) (e1 φ f) :=
  (pe_un ho ha).imp fun _ _ _ h => t1_of o n h
theorem ev_bin {op : Operator} {a b : Expr} {r : R2} {φ : D → D → Out R} {f g : Sx} (ho : OpR X (binaryOp op) r) (o : Op2 X.K r φ) (n : ∀ a b, noEx (φ a b)) (ha : EV X W a f) (hb : EV X W b g) : EV X W (.BinOp a op b pos) (e2 φ f g) :=
  (pe_op ho ha hb).imp fun _ _ _ h => t2_of o n h
theorem ev_cmp {op : CmpOp} {a b : Expr} {r : R2} {φ : D → D → Out R} {f g : Sx} (ho : OpR X (compareOp op) r) (o : Op2 X.K r φ) (n : ∀ a b, noEx (φ a b)) (ha : EV X W a f) (hb : EV X W b g) (hm : behindInMarks op b = false) : EV X W (.Compare a [op] [b] pos) (e2 φ f g) :=
  (pe_cmpR ho ha hb hm).imp fun _ _ _ h => t2_of o n h
end
/-! ### tuples that are made: known to their objects -/
section
variable {X : Cx}
def tTupN (t : TA) : TE := fun σ H Q => t σ H fun xs H1 => xs.length ≤ sizeLine ∧ NewT H1 Q xs
theorem pe_tupN {es : List Expr} {x1} {t : TA} {pos : Pos} (h : PA X es t) : PE X (.Tuple es x1 pos) (tTupN t) := by
  refine ⟨fun pins s σ H Q I hq => ?_⟩
  refine wpAny_Tuple_spliced (thn (h.run pos pins s σ H _ I hq) fun us s1 ⟨xs, H1, I1, r, z, q⟩ => ⟨by rw [← r.length]; exact z, ?_⟩)
  have hf : H1 s1.heap.objs.size = none := I1.hok.fresh (Nat.le_refl _)
  refine ⟨.ref s1.heap.objs.size, upd H1 s1.heap.objs.size (.frz { cls := .type "tuple", data := .seq us.toArray } (.tup xs)), I1.laid (t' := s1.toks) (fun b u e => Heap.get?_push_of_some _ e) (Nat.le_refl _) ?_, rfl, q _ _ rfl hf⟩
  exact ⟨Heap.get?_push_size _ rfl, z, us, r, ⟨_, Heap.get?_push_size _ rfl, rfl, _, rfl⟩⟩
def rSlN (K : PySem.W.Frag) : V → Option Int → Option Int → Hp → VK → Prop := fun x lo hi H Q => ∃ a xs, x = .ref a ∧ SqT K H a xs ∧
  (HT.sIx xs.length 0 lo = 0 ∧ HT.sIx xs.length xs.length hi = xs.length → Q (.ref a) H) ∧ (¬ (HT.sIx xs.length 0 lo = 0 ∧ HT.sIx xs.length xs.length hi = xs.length) → NewT H Q (cutV xs lo hi))
theorem sl_tupN : SlR X (rSlN X.K) := by
  intro pins s σ H x v vl vu lo hi sl Q I rx hs pl pu h
  obtain ⟨a, xs, rfl, hx, q1, q⟩ := h
  cases rx
  obtain ⟨its, r, ht, hz⟩ := I.tuple hx
  have hlen : its.toArray.size = xs.length := by rw [List.size_toArray]; exact r.length.symm
  refine ⟨"tuple", _, PyProof.Rows.slot_tuple_getitem.lookup, ht.typeIs, ?_⟩
  by_cases hw : HT.sIx xs.length 0 lo = 0 ∧ HT.sIx xs.length xs.length hi = xs.length
  · exact getItem_tuple_whole ht hs pl pu (by rw [hlen]; exact hw) ⟨.ref a, H, I, rfl, q1 hw⟩
  · refine HT.getItem_tuple_cut ht hs pl pu (by rw [hlen]; exact hw) ?_ (by rw [hlen]; exact hz)
    rw [hlen]
    refine ⟨.ref s.heap.objs.size, _, I.laid (t' := s.toks) (o := .frz { cls := .type "tuple", data := .seq (((its.drop (HT.sIx xs.length 0 lo)).take (HT.sIx xs.length xs.length hi - HT.sIx xs.length 0 lo))).toArray } (.tup (cutV xs lo hi))) (fun b ob q => Heap.get?_push_of_some _ q) (Nat.le_refl _) ?_, rfl, q hw _ _ rfl (I.hok.fresh (Nat.le_refl _))⟩
    exact ⟨Heap.get?_push_size _ rfl, Nat.le_trans (cutV_length xs lo hi) hz, _, (r.drop (HT.sIx xs.length 0 lo)).take (HT.sIx xs.length xs.length hi - HT.sIx xs.length 0 lo), IsTup.new _ _⟩
def rCatN (K : PySem.W.Frag) : R2 := fun x y H Q => ∃ a b xs ys, x = .ref a ∧ y = .ref b ∧ SqT K H a xs ∧ SqT K H b ys ∧ xs.length + ys.length ≤ sizeLine ∧
  (xs = [] → Q (.ref b) H) ∧ (xs ≠ [] → ys = [] → Q (.ref a) H) ∧ (xs ≠ [] → ys ≠ [] → NewT H Q (xs ++ ys))
theorem op_catN : OpR X (binaryOp .Add) (rCatN X.K) := by
  intro pins s σ H x y v u Q I rx ry h
  obtain ⟨a, b, xs, ys, rfl, rfl, ha, hb, hz, q0, q1, q2⟩ := h
  cases rx
  cases ry
  obtain ⟨its, r1, p1, _⟩ := I.tuple ha
  obtain ⟨its2, r2, p2, _⟩ := I.tuple hb
  by_cases hx : xs = []
  · subst hx
    cases r1
    exact cat_tup0 p1 p2 ⟨.ref b, H, I, rfl, q0 rfl⟩
  · refine HT.cat_tup p1 p2 (fun z => hx (r1.nil_iff.mp z)) (fun z => ⟨.ref a, H, I, rfl, q1 hx (r2.nil_iff.mp z)⟩) (fun z => ?_) (by rw [← r1.length, ← r2.length]; exact hz)
    refine ⟨.ref s.heap.objs.size, _, I.laid (t' := s.toks) (o := .frz { cls := .type "tuple", data := .seq (its ++ its2).toArray } (.tup (xs ++ ys))) (fun b ob q => Heap.get?_push_of_some _ q) (Nat.le_refl _) ?_, rfl, q2 hx (fun w => z (r2.nil_iff.mpr w)) _ _ rfl (I.hok.fresh (Nat.le_refl _))⟩
    exact ⟨Heap.get?_push_size _ rfl, by rw [List.length_append]; exact hz, _, r1.append r2, IsTup.new _ _⟩
theorem call_tupleN : CallR X (.type "tuple") (fun xs H Q => ∃ p ys, xs = [.ref p] ∧ ((SqL X.K H p ys ∧ NewT H Q ys) ∨ (SqT X.K H p ys ∧ Q (.ref p) H))) := by
  intro pins s σ H xs us Q I r h
  obtain ⟨p, ys, rfl, h⟩ := h
  obtain ⟨u, rfl, rx⟩ := Vals.one r
  cases rx
  rcases h with ⟨hq, q⟩ | ⟨hq, q⟩
  · obtain ⟨its, r', pl, hz⟩ := I.list hq
    have hlen := r'.length
    refine call_tuple_list pl.isList (fun h' kp => ?_) (by simp only [List.size_toArray] <;> omega)
    have I1 : L2.Inv X pins σ H { s with heap := h' } := I.kept (t' := s.toks) kp
    have I2 : L2.Inv X pins σ (upd H h'.objs.size (.frz { cls := .type "tuple", data := .seq its.toArray } (.tup ys))) { s with heap := h'.push { cls := .type "tuple", data := .seq its.toArray } } :=
      I1.laid (t' := s.toks) (fun b o e => Heap.get?_push_of_some _ e) (Nat.le_refl _) (show ObjOk X.prog X.w _ _ _ (.frz _ (.tup ys)) from ⟨Heap.get?_push_size _ rfl, hz, its, r', IsTup.new _ _⟩)
    exact ⟨.ref h'.objs.size, _, I2, rfl, q _ _ rfl (I1.hok.fresh (Nat.le_refl _))⟩
  · obtain ⟨its, r', pl, hz⟩ := I.tuple hq
    exact call_tuple_same pl ⟨.ref p, H, I, rfl, q⟩
end
end Fs

set_option maxHeartbeats 4000000
namespace Fs
open PySem PySem.Spec PyProof.Rows L2

/-! ### data as the model's comparisons have it -/
mutual
def toPy : D → Option PyData
  | .non => some .none
  | .bl b => some (.bool b)
  | .int i => some (.int i)
  | .str s => some (.str s)
  | .tup l => (toPys l).map .tuple
  | .lst l => (toPys l).map .list
  | .dct _ => none
  | .scr ns => some (.list (ns.map .int))
  | .dcz _ => none
  | .dtk _ _ => none
def toPys : List D → Option (List PyData)
  | [] => some []
  | d :: ds => match toPy d, toPys ds with
    | some p, some ps => some (p :: ps)
    | _, _ => none
end
section
variable {K : PySem.W.Frag} {F H : Hp}
theorem dpInts : ∀ (ns : List Int), DpAll K H (ns.map V.int) (ns.map PyData.int)
  | [] => .nil
  | n :: ns => .cons (.int n) (dpInts ns)
mutual
theorem DR.dp (s : Same F H) : ∀ {v : V} {d : D} {p : PyData}, DR K F v d → toPy d = some p → Dp K H v p
  | _, _, _, .non, e => by simp only [toPy, Option.some.injEq] at e; subst e; exact .non
  | _, _, _, .bl b, e => by simp only [toPy, Option.some.injEq] at e; subst e; exact .bl b
  | _, _, _, .int b, e => by simp only [toPy, Option.some.injEq] at e; subst e; exact .int b
  | _, _, _, .str b, e => by simp only [toPy, Option.some.injEq] at e; subst e; exact .str b
  | _, _, _, .tup h r, e => by
    simp only [toPy, Option.map_eq_some_iff] at e
    obtain ⟨ps, e1, rfl⟩ := e
    exact .tup (sameT s h.t) (DRs.dp s r e1)
  | _, _, _, .lst h r, e => by
    simp only [toPy, Option.map_eq_some_iff] at e
    obtain ⟨ps, e1, rfl⟩ := e
    exact .lst (.of (s _ _ h)) (DRs.dp s r e1)
  | _, _, _, .dct h r, e => by simp only [toPy] at e; cases e
  | _, _, _, .dcz h r, e => by simp only [toPy] at e; cases e
  | _, _, _, .dtk h r, e => by simp only [toPy] at e; cases e
  | _, _, _, .scr h, e => by
    simp only [toPy, Option.some.injEq] at e
    subst e
    exact .lst (s.seq h) (dpInts _)
theorem DRs.dp (s : Same F H) : ∀ {v : List V} {d : List D} {p : List PyData}, DRs K F v d → toPys d = some p → DpAll K H v p
  | _, _, _, .nil, e => by simp only [toPys, Option.some.injEq] at e; subst e; exact .nil
  | _, _, _, .cons (d := d) (ds := ds) h r, e => by
    simp only [toPys] at e
    cases e1 : toPy d with
    | none => rw [e1] at e; cases e
    | some q =>
      cases e2 : toPys ds with
      | none => rw [e1, e2] at e; cases e
      | some qs =>
        rw [e1, e2] at e
        cases e
        exact .cons (DR.dp s h e1) (DRs.dp s r e2)
end
theorem DV.dp (s : Same F H) {v : V} {d : D} {p : PyData} (h : DV K F H v d) (e : toPy d = some p) : Dp K H v p := by
  rcases h with h | ⟨l, rfl, o⟩
  · exact h.dp s e
  · cases d <;> first | exact (False.elim o) | skip
    · obtain ⟨xs, q, r⟩ := o
      simp only [toPy, Option.map_eq_some_iff] at e
      obtain ⟨ps, e1, rfl⟩ := e
      exact .lst (.of q) (r.dp s e1)
    all_goals (simp only [toPy] at e; cases e)
theorem DV.tupF {v : V} {ds : List D} (h : DV K F H v (.tup ds)) : DR K F v (.tup ds) := by
  rcases h with h | ⟨l, rfl, o⟩
  · exact h
  · exact o.elim
end
/-- comparable data -/
def pyOk (d : D) : Bool := match toPy d with
  | some p => SeqAt.shaped p
  | none => false
/-- == of comparable data -/
def deq (a b : D) : Bool := match toPy a, toPy b with
  | some p, some q => PyData.eqv p q
  | _, _ => false
theorem pyOk_py {d : D} (h : pyOk d = true) : ∃ p, toPy d = some p ∧ SeqAt.shaped p = true := by
  unfold pyOk at h
  cases e : toPy d with
  | none => rw [e] at h; cases h
  | some p => rw [e] at h; exact ⟨p, rfl, h⟩
def cB (b : Bool) : Out R := .ok (.cl (.bl b))
def cI (i : Int) : Out R := .ok (.cl (.int i))
def cD (d : D) : Out R := .ok (.cl d)
def oD (d : D) : Out R := .ok (.ow d)

section
variable {X : Cx} {K : PySem.W.Frag} {F H : Hp} {Q : VK}
theorem okV_cl {d : D} {v : V} (s : Same F H) (h : okV K F H Q (.ok (.cl d))) (r : DR K F v d) : Q v H := h F H v (.refl s) r
theorem okV_new {ds : List D} {xs : List V} (s : Same F H) (h : okV K F H Q (.ok (.cl (.tup ds)))) (r : DRs K F xs ds) : NewT H Q xs := fun p o hn n =>
  h _ _ _ (.new s n) (.tup (.new hn) (r.mono (Ext.new s n).ff))
theorem okV_newL {ds : List D} {xs : List V} (s : Same F H) (h : okV K F H Q (.ok (.ow (.lst ds)))) (r : DRs K F xs ds) : ∀ p, H p = none → Q (.ref p) (upd H p (.lst xs)) := fun p n =>
  h _ _ _ (.newO s n) ⟨p, rfl, n, s.free n, xs, upd_same, r⟩

def rRepN (K : PySem.W.Frag) : R2 := fun x y H Q => ∃ l k xs, x = .ref l ∧ y = .int k ∧ SqT K H l xs ∧ xs ≠ [] ∧ 2 ≤ k ∧ k ≤ 1000 ∧ xs.length ≤ 1000 ∧ NewT H Q (List.replicate k.toNat xs).flatten
theorem op_repN {X : Cx} : OpR X (binaryOp .Mult) (rRepN X.K) := by
  intro pins s σ H x y v u Q I rx ry h
  obtain ⟨l, k, xs, rfl, rfl, hT, hne, h1, h2, hz, q⟩ := h
  cases rx
  obtain ⟨t, rfl⟩ := ry
  obtain ⟨its, r, ⟨⟨cls, dd, data, sl⟩, ho, hc, n, hd⟩, hs⟩ := I.tuple hT
  simp only at hc hd
  subst hc hd
  have hle : its.length = xs.length := r.length.symm
  have hn : its ≠ [] := fun e => hne (by
    rw [e] at hle
    exact List.eq_nil_of_length_eq_zero hle.symm)
  have hi : its.toArray.isEmpty = false := by
    cases its with
    | nil => exact absurd rfl hn
    | cons a b => rfl
  have hsz0 : its.toArray.size = xs.length := by rw [List.size_toArray, hle]
  have hm : ((its.toArray.size : Nat) : Int) * k ≤ 1000000 := by
    rw [hsz0]
    have a1 : ((xs.length : Nat) : Int) * k ≤ 1000 * k := Int.mul_le_mul_of_nonneg_right (by omega) (by omega)
    omega
  have flen : (List.replicate k.toNat its).flatten.length ≤ sizeLine := by
    rw [PyProof.Rows.lm_len_rep_flat, hle, sizeLine_eq]
    have a1 : k.toNat * xs.length ≤ 1000 * 1000 := Nat.mul_le_mul (by omega) hz
    omega
  have c0 : (decide (k < -(2 ^ 63)) || decide (k ≥ 2 ^ 63)) = false := by
    rw [decide_eq_false (by omega), decide_eq_false (by omega)] <;> rfl
  have c1 : (its.toArray.isEmpty || k == 1) = false := by
    rw [hi, Bool.false_or]
    exact beq_eq_false_iff_ne.mpr (by omega)
  have c2 : (decide (k ≤ 0) || its.toArray.isEmpty) = false := by
    rw [hi, Bool.or_false]
    exact decide_eq_false (by omega)
  have c4 : Builtin.Tuple.tupleTooMany (((its.toArray.size : Nat) : Int) * k) = false := by
    unfold Builtin.Tuple.tupleTooMany
    rw [sizeLine_eq]
    exact decide_eq_false (by omega)
  refine wpAny_binaryOp_repeat_ref (T := "tuple") (U := "int") (by decide) ⟨_, ho, rfl⟩ (fun s' => typeIs_int s' k t) noFill_tuple_mul F.fills_int_mul F.slot_int_rmul repeat_tuple F.slot_int_index.lookup
    (call_meets F.slot_int_rmul (typeIs_int s k t) F.entry_int_rmul (F.args_int_rmul_2 _ _) (int_rmul_tuple k t l its.toArray n dd sl)
      ⟨ho, rfl, ⟨_, ho, rfl⟩, call_meets F.slot_tuple_mul ⟨_, ho, rfl⟩ F.entry_tuple_mul (F.args_tuple_mul_2 _ _) (tuple_mulW l its.toArray n dd sl k t c0 c1 c2 (by omega) c4 (by rw [size_rep, List.size_toArray]; exact flen)) ⟨ho, ?_⟩⟩)
  rw [size_rep]
  refine ⟨.ref s.heap.objs.size, _, I.laid (t' := s.toks) (o := .frz { cls := .type "tuple", data := .seq (List.replicate k.toNat its).flatten.toArray } (.tup (List.replicate k.toNat xs).flatten)) (fun b ob q => Heap.get?_push_of_some _ q) (Nat.le_refl _) ?_, rfl, q _ _ rfl (I.hok.fresh (Nat.le_refl _))⟩
  exact ⟨Heap.get?_push_size _ rfl, by rw [PyProof.Rows.lm_len_rep_flat, sizeLine_eq]; have a1 : k.toNat * xs.length ≤ 1000 * 1000 := Nat.mul_le_mul (by omega) hz; omega, _, r.rep k.toNat, IsTup.new _ _⟩
/-! ### + -/
def dAdd : D → D → Out R
  | .int a, .int b => cI (a + b)
  | .str a, .str b => if a.length + b.length ≤ 16777216 then cD (.str (a ++ b)) else .st
  | .tup a, .tup b => if a.length + b.length ≤ 16777216 then cD (.tup (a ++ b)) else .st
  | .lst a, .lst b => if a.length + b.length ≤ 16777216 then oD (.lst (a ++ b)) else .st
  | _, _ => .st
def rAddA (K : PySem.W.Frag) : R2 := fun x y H Q => (rI0 fun i j => .int (i + j)) x y H Q ∨ rCatN K x y H Q ∨ rCat x y H Q ∨ (∃ i j, x = .str i ∧ y = .str j ∧ i.length + j.length ≤ sizeLine ∧ Q (.str (i ++ j)) H)
theorem op_addA : OpR X (binaryOp .Add) (rAddA X.K) := op_add.or (op_catN.or (op_cat.or op_add_str))
theorem if_some {c : Prop} [Decidable c] {a : Out R} {F H : Hp} {Q : VK} (h : okV K F H Q (if c then a else .st)) : c ∧ okV K F H Q a := by
  by_cases k : c
  · rw [if_pos k] at h; exact ⟨k, h⟩
  · rw [if_neg k] at h; exact h.elim
theorem o2_add : Op2 K (rAddA K) dAdd := by
  intro F H x y a b Q s hx hy h
  cases a <;> first | exact (False.elim h) | skip
  · cases b <;> first | exact (False.elim h) | skip
    exact .inl ⟨_, _, hx.int, hy.int, okV_cl s h (.int _)⟩
  · cases b <;> first | exact (False.elim h) | skip
    obtain ⟨c, h⟩ := if_some h
    exact .inr (.inr (.inr ⟨_, _, hx.str, hy.str, (by rw [sizeLine_eq]; exact c), okV_cl s h (.str _)⟩))
  · cases b <;> first | exact (False.elim h) | skip
    rename_i as bs
    obtain ⟨c, h⟩ := if_some h
    obtain ⟨l, xs, rfl, q1, r1⟩ := hx.tup s
    obtain ⟨l2, ys, rfl, q2, r2⟩ := hy.tup s
    have z1 := r1.len
    have z2 := r2.len
    refine .inr (.inl ⟨_, _, _, _, rfl, rfl, q1, q2, (by rw [sizeLine_eq]; omega), fun e => ?_, fun _ e => ?_, fun _ _ => okV_new s h (r1.app r2)⟩)
    · subst e
      cases as with
      | nil => exact okV_cl s h hy.tupF
      | cons _ _ => cases z1
    · subst e
      cases bs with
      | nil => rw [List.append_nil] at h; exact okV_cl s h hx.tupF
      | cons _ _ => cases z2
  · cases b <;> first | exact (False.elim h) | skip
    obtain ⟨c, h⟩ := if_some h
    obtain ⟨l, xs, rfl, q1, r1⟩ := hx.lst s
    obtain ⟨l2, ys, rfl, q2, r2⟩ := hy.lst s
    have z1 := r1.len
    have z2 := r2.len
    exact .inr (.inr (.inl ⟨_, _, _, _, rfl, rfl, q1, q2, (by rw [sizeLine_eq]; omega), okV_newL s h (r1.app r2)⟩))
theorem n_add : ∀ a b, noEx (dAdd a b) := by
  intro a b; unfold dAdd; (try unfold cI cB cD oD); repeat' (first | trivial | split)

/-! ### ints -/
def dSub : D → D → Out R
  | .int a, .int b => cI (a - b)
  | _, _ => .st
theorem o2_sub : Op2 K (rI0 fun i j => .int (i - j)) dSub := by
  intro F H x y a b Q s hx hy h
  cases a <;> first | exact (False.elim h) | skip
  cases b <;> first | exact (False.elim h) | skip
  exact ⟨_, _, hx.int, hy.int, okV_cl s h (.int _)⟩
theorem n_sub : ∀ a b, noEx (dSub a b) := by
  intro a b; unfold dSub; (try unfold cI cB cD oD); repeat' (first | trivial | split)
/-- the product is served -/
def mulOk (a b : Int) : Bool := decide (a.natAbs < 2 ^ 64) || decide (b.natAbs < 2 ^ 64) || decide (a.natAbs.log2 + b.natAbs.log2 < 1000000)
def dMul : D → D → Out R
  | .int a, .int b => if mulOk a b then cI (a * b) else .st
  | .lst a, .int k => if a.length * k.toNat ≤ 16777216 ∧ k < 2 ^ 63 ∧ -(2 ^ 63) ≤ k then oD (.lst (List.replicate k.toNat a).flatten) else .st
  | .tup a, .int k => if 2 ≤ k ∧ k ≤ 1000 ∧ a.length ≤ 1000 ∧ a.isEmpty = false then cD (.tup (List.replicate k.toNat a).flatten) else .st
  | _, _ => .st
def rMulA (K : PySem.W.Frag) : R2 := fun x y H Q => (rI CMul fun i j => .int (i * j)) x y H Q ∨ (rI CMulW fun i j => .int (i * j)) x y H Q ∨ rRep x y H Q ∨ rRepN K x y H Q
theorem op_mulA : OpR X (binaryOp .Mult) (rMulA X.K) := op_mul.or (op_mulW.or (op_rep.or op_repN))
theorem o2_mul : Op2 K (rMulA K) dMul := by
  intro F H x y a b Q s hx hy h
  cases a <;> first | exact (False.elim h) | skip
  · cases b <;> first | exact (False.elim h) | skip
    obtain ⟨c, h⟩ := if_some h
    unfold mulOk at c
    simp only [Bool.or_eq_true, decide_eq_true_eq] at c
    rcases c with (c | c) | c
    · exact .inl ⟨_, _, hx.int, hy.int, .inl (by omega), okV_cl s h (.int _)⟩
    · exact .inl ⟨_, _, hx.int, hy.int, .inr (by omega), okV_cl s h (.int _)⟩
    · exact .inr (.inl ⟨_, _, hx.int, hy.int, c, okV_cl s h (.int _)⟩)
  · cases b <;> first | exact (False.elim h) | skip
    obtain ⟨c, h⟩ := if_some h
    obtain ⟨l, xs, rfl, q1, r1⟩ := hx.tup s
    have z1 := r1.len
    refine .inr (.inr (.inr ⟨_, _, _, rfl, hy.int, q1, fun e => ?_, c.1, c.2.1, (by omega), okV_new s h (r1.rep _)⟩))
    subst e
    have c4 := c.2.2.2
    rw [List.eq_nil_of_length_eq_zero z1.symm] at c4
    cases c4
  · cases b <;> first | exact (False.elim h) | skip
    obtain ⟨c, h⟩ := if_some h
    obtain ⟨l, xs, rfl, q1, r1⟩ := hx.lst s
    have z1 := r1.len
    exact .inr (.inr (.inl ⟨_, _, _, rfl, hy.int, q1, c.2.2, c.2.1, (by rw [z1, sizeLine_eq]; exact c.1), okV_newL s h (r1.rep _)⟩))
theorem n_mul : ∀ a b, noEx (dMul a b) := by
  intro a b; unfold dMul; (try unfold cI cB cD oD); repeat' (first | trivial | split)
def CDivA (_ j : Int) : Prop := j ≠ 0 ∧ j.natAbs.log2 < 9000
theorem op_fdivA : OpR X (binaryOp .FloorDiv) (rI CDivA fun i j => .int (i.fdiv j)) := opI fun i j _ _ _ _ _ hc q => floordiv_int hc.1 q (.inl (PyProof.noPylong_of_log2 hc.2))
def dDiv : D → D → Out R
  | .int a, .int b => if b ≠ 0 ∧ b.natAbs.log2 < 9000 then cI (a.fdiv b) else .st
  | _, _ => .st
theorem o2_div : Op2 K (rI CDivA fun i j => .int (i.fdiv j)) dDiv := by
  intro F H x y a b Q s hx hy h
  cases a <;> first | exact (False.elim h) | skip
  cases b <;> first | exact (False.elim h) | skip
  obtain ⟨c, h⟩ := if_some h
  exact ⟨_, _, hx.int, hy.int, c, okV_cl s h (.int _)⟩
theorem n_div : ∀ a b, noEx (dDiv a b) := by
  intro a b; unfold dDiv; (try unfold cI cB cD oD); repeat' (first | trivial | split)
def dMod : D → D → Out R
  | .int a, .int b => if b ≠ 0 then cI (a.fmod b) else .st
  | _, _ => .st
theorem o2_mod : Op2 K (rI (fun _ j => j ≠ 0) fun i j => .int (i.fmod j)) dMod := by
  intro F H x y a b Q s hx hy h
  cases a <;> first | exact (False.elim h) | skip
  cases b <;> first | exact (False.elim h) | skip
  obtain ⟨c, h⟩ := if_some h
  exact ⟨_, _, hx.int, hy.int, c, okV_cl s h (.int _)⟩
theorem n_mod : ∀ a b, noEx (dMod a b) := by
  intro a b; unfold dMod; (try unfold cI cB cD oD); repeat' (first | trivial | split)
def dPow : D → D → Out R
  | .int a, .int b => if 0 ≤ b ∧ b ≤ 1000000 ∧ a.natAbs < 2 ^ 64 then cI (a ^ b.toNat) else .st
  | _, _ => .st
theorem o2_pow : Op2 K (rI CPow fun i j => .int (i ^ j.toNat)) dPow := by
  intro F H x y a b Q s hx hy h
  cases a <;> first | exact (False.elim h) | skip
  cases b <;> first | exact (False.elim h) | skip
  obtain ⟨c, h⟩ := if_some h
  exact ⟨_, _, hx.int, hy.int, c, okV_cl s h (.int _)⟩
theorem n_pow : ∀ a b, noEx (dPow a b) := by
  intro a b; unfold dPow; (try unfold cI cB cD oD); repeat' (first | trivial | split)
def dShl : D → D → Out R
  | .int a, .int b => if 0 ≤ b ∧ b ≤ 1000000 ∧ a.natAbs < 2 ^ 64 then cI (a * 2 ^ b.toNat) else .st
  | _, _ => .st
theorem o2_shl : Op2 K (rI CPow fun i j => .int (i * 2 ^ j.toNat)) dShl := by
  intro F H x y a b Q s hx hy h
  cases a <;> first | exact (False.elim h) | skip
  cases b <;> first | exact (False.elim h) | skip
  obtain ⟨c, h⟩ := if_some h
  exact ⟨_, _, hx.int, hy.int, c, okV_cl s h (.int _)⟩
theorem n_shl : ∀ a b, noEx (dShl a b) := by
  intro a b; unfold dShl; (try unfold cI cB cD oD); repeat' (first | trivial | split)
def dShr : D → D → Out R
  | .int a, .int b => if 0 ≤ b then cI (a / 2 ^ b.toNat) else .st
  | _, _ => .st
theorem o2_shr : Op2 K (rI (fun _ j => 0 ≤ j) fun i j => .int (i / 2 ^ j.toNat)) dShr := by
  intro F H x y a b Q s hx hy h
  cases a <;> first | exact (False.elim h) | skip
  cases b <;> first | exact (False.elim h) | skip
  obtain ⟨c, h⟩ := if_some h
  exact ⟨_, _, hx.int, hy.int, c, okV_cl s h (.int _)⟩
theorem n_shr : ∀ a b, noEx (dShr a b) := by
  intro a b; unfold dShr; (try unfold cI cB cD oD); repeat' (first | trivial | split)
def dAnd : D → D → Out R
  | .int a, .int b => cI (Builtin.bitAnd a b)
  | _, _ => .st
theorem o2_and : Op2 K (rI0 fun i j => .int (Builtin.bitAnd i j)) dAnd := by
  intro F H x y a b Q s hx hy h
  cases a <;> first | exact (False.elim h) | skip
  cases b <;> first | exact (False.elim h) | skip
  exact ⟨_, _, hx.int, hy.int, okV_cl s h (.int _)⟩
theorem n_and : ∀ a b, noEx (dAnd a b) := by
  intro a b; unfold dAnd; (try unfold cI cB cD oD); repeat' (first | trivial | split)
def dOr : D → D → Out R
  | .int a, .int b => cI (Builtin.bitOr a b)
  | _, _ => .st
theorem o2_or : Op2 K (rI0 fun i j => .int (Builtin.bitOr i j)) dOr := by
  intro F H x y a b Q s hx hy h
  cases a <;> first | exact (False.elim h) | skip
  cases b <;> first | exact (False.elim h) | skip
  exact ⟨_, _, hx.int, hy.int, okV_cl s h (.int _)⟩
theorem n_or : ∀ a b, noEx (dOr a b) := by
  intro a b; unfold dOr; (try unfold cI cB cD oD); repeat' (first | trivial | split)
def dNeg : D → Out R
  | .int a => cI (-a)
  | _ => .st
theorem o1_neg : Op1 K (rU fun i => .int (-i)) dNeg := by
  intro F H x a Q s hx h
  cases a <;> first | exact (False.elim h) | skip
  exact ⟨_, hx.int, okV_cl s h (.int _)⟩
theorem n_neg : ∀ a, noEx (dNeg a) := by
  intro a; unfold dNeg; (try unfold cI cB cD oD); repeat' (first | trivial | split)

/-! ### comparisons -/
def dEq (a b : D) : Out R := if pyOk a && pyOk b then cB (deq a b) else .st
def dNe (a b : D) : Out R := if pyOk a && pyOk b then cB (!deq a b) else .st
theorem o2_eq : Op2 K (rEqD K) dEq := by
  intro F H x y a b Q s hx hy h
  obtain ⟨c, h⟩ := if_some h
  rw [Bool.and_eq_true] at c
  obtain ⟨p, e1, s1⟩ := pyOk_py c.1
  obtain ⟨q, e2, s2⟩ := pyOk_py c.2
  have e : deq a b = PyData.eqv p q := by unfold deq; rw [e1, e2]
  rw [e] at h
  exact ⟨p, q, hx.dp s e1, hy.dp s e2, s1, s2, okV_cl s h (.bl _)⟩
theorem o2_ne : Op2 K (rNeD K) dNe := by
  intro F H x y a b Q s hx hy h
  obtain ⟨c, h⟩ := if_some h
  rw [Bool.and_eq_true] at c
  obtain ⟨p, e1, s1⟩ := pyOk_py c.1
  obtain ⟨q, e2, s2⟩ := pyOk_py c.2
  have e : deq a b = PyData.eqv p q := by unfold deq; rw [e1, e2]
  rw [e] at h
  exact ⟨p, q, hx.dp s e1, hy.dp s e2, s1, s2, okV_cl s h (.bl _)⟩
theorem n_eq : ∀ a b, noEx (dEq a b) := by
  intro a b; unfold dEq; (try unfold cI cB cD oD); repeat' (first | trivial | split)
theorem n_ne : ∀ a b, noEx (dNe a b) := by
  intro a b; unfold dNe; (try unfold cI cB cD oD); repeat' (first | trivial | split)
def dCmp (p : Int → Int → Bool) : D → D → Out R
  | .int a, .int b => cB (p a b)
  | _, _ => .st
theorem o2_cmp (p : Int → Int → Bool) : Op2 K (rI0 fun i j => .bl (p i j)) (dCmp p) := by
  intro F H x y a b Q s hx hy h
  cases a <;> first | exact (False.elim h) | skip
  cases b <;> first | exact (False.elim h) | skip
  exact ⟨_, _, hx.int, hy.int, okV_cl s h (.bl _)⟩
theorem n_cmp (p : Int → Int → Bool) : ∀ a b, noEx (dCmp p a b) := by
  intro a b; unfold dCmp; (try unfold cI cB cD oD); repeat' (first | trivial | split)
abbrev dLt := dCmp fun i j => decide (i < j)
abbrev dLe := dCmp fun i j => decide (i ≤ j)
abbrev dGt := dCmp fun i j => decide (j < i)
abbrev dGe := dCmp fun i j => decide (j ≤ i)
def isN : D → Bool
  | .non => true
  | _ => false
/-- is: None, True, False -/
def dIs : D → D → Out R
  | .bl a, .bl b => cB (decide (a = b))
  | a, .non => cB (isN a)
  | _, _ => .st
def dIsNot : D → D → Out R
  | .bl a, .bl b => cB (!decide (a = b))
  | a, .non => cB (!isN a)
  | _, _ => .st
theorem isNon {v : V} {a : D} (h : DV K F H v a) : decide (v = V.non) = isN a := by
  rcases h with h | ⟨l, rfl, o⟩
  · cases h <;> rfl
  · cases a <;> first | exact (False.elim o) | rfl
theorem op_isA : OpR X (compareOp .Is) (fun x y H Q => rIsB x y H Q ∨ (y = .non ∧ Q (.bl (decide (x = .non))) H)) := op_isBl.or op_isN
theorem op_notA : OpR X (compareOp .IsNot) (fun x y H Q => rNotB x y H Q ∨ (y = .non ∧ Q (.bl (!decide (x = .non))) H)) := op_notBl.or op_notN
theorem o2_is : Op2 K (fun x y H Q => rIsB x y H Q ∨ (y = .non ∧ Q (.bl (decide (x = .non))) H)) dIs := by
  intro F H x y a b Q s hx hy h
  cases b <;> first | (cases a <;> exact (False.elim h)) | skip
  · refine .inr ⟨hy.non, ?_⟩
    have e : dIs a .non = cB (isN a) := by cases a <;> rfl
    rw [e] at h
    rw [isNon hx]
    exact okV_cl s h (.bl _)
  · cases a <;> first | exact (False.elim h) | skip
    exact .inl ⟨_, _, hx.bl, hy.bl, okV_cl s h (.bl _)⟩
theorem o2_isNot : Op2 K (fun x y H Q => rNotB x y H Q ∨ (y = .non ∧ Q (.bl (!decide (x = .non))) H)) dIsNot := by
  intro F H x y a b Q s hx hy h
  cases b <;> first | (cases a <;> exact (False.elim h)) | skip
  · refine .inr ⟨hy.non, ?_⟩
    have e : dIsNot a .non = cB (!isN a) := by cases a <;> rfl
    rw [e] at h
    rw [isNon hx]
    exact okV_cl s h (.bl _)
  · cases a <;> first | exact (False.elim h) | skip
    exact .inl ⟨_, _, hx.bl, hy.bl, okV_cl s h (.bl _)⟩
theorem n_is : ∀ a b, noEx (dIs a b) := by
  intro a b; unfold dIs; (try unfold cI cB cD oD); repeat' (first | trivial | split)
theorem n_isNot : ∀ a b, noEx (dIsNot a b) := by
  intro a b; unfold dIsNot; (try unfold cI cB cD oD); repeat' (first | trivial | split)
/-- in: lists, tuples, texts, dicts -/
def rInT (K : PySem.W.Frag) (neg : Bool) : R2 := fun x y H Q => ∃ d ds, Dp K H x d ∧ Dp K H y (.tuple ds) ∧ SeqAt.shaped d = true ∧ SeqAt.shaped (.tuple ds) = true ∧ Q (.bl (if neg then !(ds.any fun z => PyData.eqv z d) else ds.any fun z => PyData.eqv z d)) H
end
end Fs

set_option maxHeartbeats 4000000
namespace Fs
open PySem PySem.Spec PyProof.Rows L2

/-! ### dicts by data -/
def dKey : D → Option Key
  | .int i => some (.inl i)
  | .str s => some (.inr s)
  | _ => none
def dLook (kvs : List (Key × D)) (k : Key) : Option D := (kvs.find? fun kv => decide (kv.1 = k)).map (·.2)
def dPut (kvs : List (Key × D)) (k : Key) (v : D) : List (Key × D) :=
  if (kvs.any fun kv => decide (kv.1 = k)) = true then kvs.map (fun kv => if kv.1 = k then (kv.1, v) else kv) else kvs ++ [(k, v)]
section
variable {K : PySem.W.Frag} {F H : Hp}
theorem dKey_v {x : V} {d : D} {k : Key} (h : DV K F H x d) (e : dKey d = some k) : x = kV k := by
  cases d <;> first | (cases e; done) | skip
  · cases e; rw [h.int]; rfl
  · cases e; rw [h.str]; rfl
theorem DRk.look {k : Key} : ∀ {ks : List (Key × V)} {kvs : List (Key × D)}, DRk K F ks kvs → match dLook kvs k with
    | some d => ∃ v, valV ks k = some v ∧ DR K F v d
    | none => valV ks k = none
  | _, _, .nil => rfl
  | _, _, .cons (k := k') (v := v) (vs := vs) (d := d) (ds := ds) h r => by
    by_cases e : k' = k
    · have e1 : dLook ((k', d) :: ds) k = some d := by simp [dLook, List.find?_cons, e]
      rw [e1]
      exact ⟨v, valV_pos e, h⟩
    · have e1 : dLook ((k', d) :: ds) k = dLook ds k := by simp [dLook, List.find?_cons, e]
      rw [e1, valV_neg (p := (k', v)) e]
      exact DRk.look r
theorem DRk.any {k : Key} : ∀ {ks : List (Key × V)} {kvs : List (Key × D)}, DRk K F ks kvs → (ks.any fun kv => decide (kv.1 = k)) = (kvs.any fun kv => decide (kv.1 = k))
  | _, _, .nil => rfl
  | _, _, .cons h r => by rw [List.any_cons, List.any_cons, DRk.any r]
theorem DRk.mapPut {k : Key} {v : V} {d : D} (hv : DR K F v d) : ∀ {ks : List (Key × V)} {kvs : List (Key × D)}, DRk K F ks kvs → DRk K F (ks.map fun kv => if kv.1 = k then (kv.1, v) else kv) (kvs.map fun kv => if kv.1 = k then (kv.1, d) else kv)
  | _, _, .nil => .nil
  | _, _, .cons (k := k') h r => by
    rw [List.map_cons, List.map_cons]
    by_cases e : k' = k
    · rw [if_pos e, if_pos e]
      exact .cons hv (DRk.mapPut hv r)
    · rw [if_neg e, if_neg e]
      exact .cons h (DRk.mapPut hv r)
theorem DRk.app : ∀ {ks ls : List (Key × V)} {kvs lvs : List (Key × D)}, DRk K F ks kvs → DRk K F ls lvs → DRk K F (ks ++ ls) (kvs ++ lvs)
  | _, _, _, _, .nil, s => s
  | _, _, _, _, .cons h r, s => .cons h (DRk.app r s)
theorem DRk.put {k : Key} {v : V} {d : D} {ks : List (Key × V)} {kvs : List (Key × D)} (r : DRk K F ks kvs) (hv : DR K F v d) : DRk K F (putK ks k v) (dPut kvs k d) := by
  unfold putK dPut
  rw [r.any]
  by_cases e : (kvs.any fun kv => decide (kv.1 = k)) = true
  · rw [if_pos e, if_pos e]
    exact r.mapPut hv
  · rw [if_neg e, if_neg e]
    exact r.app (.cons hv .nil)
end

section
variable {X : Cx} {K : PySem.W.Frag} {F H : Hp} {Q : VK}
/-! ### in -/
def dIn0 (x c : D) : Option Bool := match c with
  | .lst ds => if pyOk x && pyOk (.lst ds) then some (ds.any fun z => deq z x) else none
  | .tup ds => if pyOk x && pyOk (.tup ds) then some (ds.any fun z => deq z x) else none
  | .dct kvs => (dKey x).map fun k => (dLook kvs k).isSome
  | .dcz kvs => (dKey x).map fun k => (dLook kvs k).isSome
  | .str z => match x with
    | .str y => some (!(Builtin.Str.occurrences z y 0 z.length 1).isEmpty)
    | _ => none
  | _ => none
def dIn (x c : D) : Out R := match dIn0 x c with
  | some b => cB b
  | none => .st
def dNotIn (x c : D) : Out R := match dIn0 x c with
  | some b => cB (!b)
  | none => .st
theorem any_py : ∀ {ds : List D} {ps : List PyData} {x : D} {p : PyData}, toPys ds = some ps → toPy x = some p → (ps.any fun z => PyData.eqv z p) = (ds.any fun z => deq z x)
  | [], _, _, _, e, _ => by simp only [toPys, Option.some.injEq] at e; subst e; rfl
  | d :: ds, ps, x, p, e, ex => by
    simp only [toPys] at e
    cases e1 : toPy d with
    | none => rw [e1] at e; cases e
    | some q =>
      cases e2 : toPys ds with
      | none => rw [e1, e2] at e; cases e
      | some qs =>
        rw [e1, e2] at e
        cases e
        rw [List.any_cons, List.any_cons, any_py e2 ex]
        congr 1
        unfold deq
        rw [e1, ex]
theorem op_inT (hu : X.A.units + 66 < cLine) : OpR X (compareOp .In) (rInT X.K false) := by
  intro pins s σ H x y v u Q I rx ry h
  obtain ⟨d, ds, hd, he, sd, se, q⟩ := h
  obtain ⟨as, r1⟩ := Dp.reads I d x v hd rx
  obtain ⟨bs, r2⟩ := Dp.reads I (.tuple ds) y u he ry
  have hd := SeqAt.depth_of_shaped sd
  exact SeqAt.in_tuple_reads r2 r1 (SeqAt.canLay_of_shaped se) (SeqAt.canLay_of_shaped sd) (by have := Nat.min_le_right (PyData.depthAll ds) d.depth; omega) ⟨.bl _, H, I, rfl, q⟩
theorem op_notInT (hu : X.A.units + 66 < cLine) : OpR X (compareOp .NotIn) (rInT X.K true) := by
  intro pins s σ H x y v u Q I rx ry h
  obtain ⟨d, ds, hd, he, sd, se, q⟩ := h
  obtain ⟨as, r1⟩ := Dp.reads I d x v hd rx
  obtain ⟨bs, r2⟩ := Dp.reads I (.tuple ds) y u he ry
  have hd := SeqAt.depth_of_shaped sd
  exact SeqAt.notIn_tuple_reads r2 r1 (SeqAt.canLay_of_shaped se) (SeqAt.canLay_of_shaped sd) (by have := Nat.min_le_right (PyData.depthAll ds) d.depth; omega) ⟨.bl _, H, I, rfl, q⟩
def rInK (neg : Bool) : R2 := fun x y H Q => ∃ a o, y = .ref a ∧ DGet H a x o ∧ Q (.bl (if neg then !o.isSome else o.isSome)) H
theorem op_inK (hu : X.A.units + 66 < cLine) : OpR X (compareOp .In) (rInK false) := by
  intro pins s σ H x y v u Q I rx ry h
  obtain ⟨a, o, rfl, g, q⟩ := h
  obtain rfl : u = Value.ref a := ry
  exact d_in (by omega) I g rx fun s3 I3 => ⟨.bl o.isSome, H, I3, rfl, q⟩
theorem op_notInK (hu : X.A.units + 66 < cLine) : OpR X (compareOp .NotIn) (rInK true) := by
  intro pins s σ H x y v u Q I rx ry h
  obtain ⟨a, o, rfl, g, q⟩ := h
  obtain rfl : u = Value.ref a := ry
  exact d_notIn (by omega) I g rx fun s3 I3 => ⟨.bl (!o.isSome), H, I3, rfl, q⟩
def rInS (neg : Bool) : R2 := fun x y H Q => ∃ i j, x = .str i ∧ y = .str j ∧ Q (.bl (if neg then !(!(Builtin.Str.occurrences j i 0 j.length 1).isEmpty) else !(Builtin.Str.occurrences j i 0 j.length 1).isEmpty)) H
def rInA (K : PySem.W.Frag) : R2 := fun x y H Q => rInD K x y H Q ∨ rInT K false x y H Q ∨ rInK false x y H Q ∨ rInS false x y H Q
def rNotInA (K : PySem.W.Frag) : R2 := fun x y H Q => rNotInD K x y H Q ∨ rInT K true x y H Q ∨ rInK true x y H Q ∨ rInS true x y H Q
theorem op_inA (hu : X.A.units + 66 < cLine) : OpR X (compareOp .In) (rInA X.K) := (op_inD (by omega)).or ((op_inT hu).or ((op_inK hu).or op_in_str))
theorem op_notInA (hu : X.A.units + 66 < cLine) : OpR X (compareOp .NotIn) (rNotInA X.K) := (op_notInD (by omega)).or ((op_notInT hu).or ((op_notInK hu).or op_notIn_str))
theorem pys_of_lst {ds : List D} {p : PyData} (e : toPy (.lst ds) = some p) : ∃ ps, toPys ds = some ps ∧ p = .list ps := by
  simp only [toPy, Option.map_eq_some_iff] at e
  obtain ⟨ps, e1, rfl⟩ := e
  exact ⟨ps, e1, rfl⟩
theorem pys_of_tup {ds : List D} {p : PyData} (e : toPy (.tup ds) = some p) : ∃ ps, toPys ds = some ps ∧ p = .tuple ps := by
  simp only [toPy, Option.map_eq_some_iff] at e
  obtain ⟨ps, e1, rfl⟩ := e
  exact ⟨ps, e1, rfl⟩
theorem o2_in : Op2 K (rInA K) dIn := by
  intro F H x y a b Q s hx hy h
  unfold dIn at h
  cases e : dIn0 a b with
  | none => rw [e] at h; exact h.elim
  | some r =>
    rw [e] at h
    have q : Q (.bl r) H := okV_cl s h (.bl _)
    unfold dIn0 at e
    split at e
    · split at e
      · rename_i c
        rw [Bool.and_eq_true] at c
        obtain ⟨p, e1, s1⟩ := pyOk_py c.1
        obtain ⟨p2, e2, s2⟩ := pyOk_py c.2
        obtain ⟨ps, e3, rfl⟩ := pys_of_lst e2
        cases e
        exact .inl ⟨p, ps, hx.dp s e1, hy.dp s e2, s1, s2, by rw [any_py e3 e1]; exact q⟩
      · cases e
    · split at e
      · rename_i c
        rw [Bool.and_eq_true] at c
        obtain ⟨p, e1, s1⟩ := pyOk_py c.1
        obtain ⟨p2, e2, s2⟩ := pyOk_py c.2
        obtain ⟨ps, e3, rfl⟩ := pys_of_tup e2
        cases e
        exact .inr (.inl ⟨p, ps, hx.dp s e1, hy.dp s e2, s1, s2, by rw [if_neg Bool.false_ne_true, any_py e3 e1]; exact q⟩)
      · cases e
    · rename_i kvs
      cases e1 : dKey a with
      | none => rw [e1] at e; cases e
      | some k =>
        rw [e1] at e
        cases e
        simp only [] at q
        obtain ⟨l, ks, rfl, e2, r⟩ := hy.dct s
        have g := DGet.k (k := k) e2
        rw [← dKey_v hx e1] at g
        have lk := r.look (k := k)
        refine .inr (.inr (.inl ⟨l, _, rfl, g, ?_⟩))
        rw [if_neg Bool.false_ne_true]
        cases e3 : dLook kvs k with
        | none => rw [e3] at lk; rw [lk]; rw [e3] at q; exact q
        | some d => rw [e3] at lk; obtain ⟨v, lk, _⟩ := lk; rw [lk]; rw [e3] at q; exact q
    · rename_i kvs
      cases e1 : dKey a with
      | none => rw [e1] at e; cases e
      | some k =>
        rw [e1] at e
        cases e
        simp only [] at q
        obtain ⟨l, o, ks, rfl, e2, r⟩ := hy.dcz s
        have g : DGet H l (kV k) (valV ks k) := .inl ⟨ks, k, .inr ⟨o, e2⟩, rfl, rfl⟩
        rw [← dKey_v hx e1] at g
        have lk := r.look (k := k)
        refine .inr (.inr (.inl ⟨l, _, rfl, g, ?_⟩))
        rw [if_neg Bool.false_ne_true]
        cases e3 : dLook kvs k with
        | none => rw [e3] at lk; rw [lk]; rw [e3] at q; exact q
        | some d => rw [e3] at lk; obtain ⟨v, lk, _⟩ := lk; rw [lk]; rw [e3] at q; exact q
    · split at e
      · cases e
        exact .inr (.inr (.inr ⟨_, _, hx.str, hy.str, q⟩))
      · cases e
    · cases e
theorem o2_notIn : Op2 K (rNotInA K) dNotIn := by
  intro F H x y a b Q s hx hy h
  unfold dNotIn at h
  cases e : dIn0 a b with
  | none => rw [e] at h; exact h.elim
  | some r =>
    rw [e] at h
    have q : Q (.bl (!r)) H := okV_cl s h (.bl _)
    unfold dIn0 at e
    split at e
    · split at e
      · rename_i c
        rw [Bool.and_eq_true] at c
        obtain ⟨p, e1, s1⟩ := pyOk_py c.1
        obtain ⟨p2, e2, s2⟩ := pyOk_py c.2
        obtain ⟨ps, e3, rfl⟩ := pys_of_lst e2
        cases e
        exact .inl ⟨p, ps, hx.dp s e1, hy.dp s e2, s1, s2, by rw [any_py e3 e1]; exact q⟩
      · cases e
    · split at e
      · rename_i c
        rw [Bool.and_eq_true] at c
        obtain ⟨p, e1, s1⟩ := pyOk_py c.1
        obtain ⟨p2, e2, s2⟩ := pyOk_py c.2
        obtain ⟨ps, e3, rfl⟩ := pys_of_tup e2
        cases e
        exact .inr (.inl ⟨p, ps, hx.dp s e1, hy.dp s e2, s1, s2, by rw [if_pos rfl, any_py e3 e1]; exact q⟩)
      · cases e
    · rename_i kvs
      cases e1 : dKey a with
      | none => rw [e1] at e; cases e
      | some k =>
        rw [e1] at e
        cases e
        simp only [] at q
        obtain ⟨l, ks, rfl, e2, r⟩ := hy.dct s
        have g := DGet.k (k := k) e2
        rw [← dKey_v hx e1] at g
        have lk := r.look (k := k)
        refine .inr (.inr (.inl ⟨l, _, rfl, g, ?_⟩))
        rw [if_pos rfl]
        cases e3 : dLook kvs k with
        | none => rw [e3] at lk; rw [lk]; rw [e3] at q; exact q
        | some d => rw [e3] at lk; obtain ⟨v, lk, _⟩ := lk; rw [lk]; rw [e3] at q; exact q
    · rename_i kvs
      cases e1 : dKey a with
      | none => rw [e1] at e; cases e
      | some k =>
        rw [e1] at e
        cases e
        simp only [] at q
        obtain ⟨l, o, ks, rfl, e2, r⟩ := hy.dcz s
        have g : DGet H l (kV k) (valV ks k) := .inl ⟨ks, k, .inr ⟨o, e2⟩, rfl, rfl⟩
        rw [← dKey_v hx e1] at g
        have lk := r.look (k := k)
        refine .inr (.inr (.inl ⟨l, _, rfl, g, ?_⟩))
        rw [if_pos rfl]
        cases e3 : dLook kvs k with
        | none => rw [e3] at lk; rw [lk]; rw [e3] at q; exact q
        | some d => rw [e3] at lk; obtain ⟨v, lk, _⟩ := lk; rw [lk]; rw [e3] at q; exact q
    · split at e
      · cases e
        exact .inr (.inr (.inr ⟨_, _, hx.str, hy.str, q⟩))
      · cases e
    · cases e
theorem n_in : ∀ a b, noEx (dIn a b) := by
  intro a b; unfold dIn cB; split <;> trivial
theorem n_notIn : ∀ a b, noEx (dNotIn a b) := by
  intro a b; unfold dNotIn cB; split <;> trivial

/-! ### subscripts -/
def rIxK : R2 := fun x y H Q => ∃ a v, x = .ref a ∧ DGet H a y (some v) ∧ Q v H
theorem ix_dict (hu : X.A.units + 66 < cLine) : IxR X rIxK := by
  intro value slice pins s σ H x y v u Q I rx ry h hs
  obtain ⟨a, z, rfl, g, q⟩ := h
  obtain rfl : v = Value.ref a := rx
  exact tail_any (dict_typeIs I g) PySem.F.slot_dict_getitem.lookup (d_getItem (by omega) I g ry fun w' s3 I3 rw' => ⟨z, H, I3, rw', q⟩) hs
def rIxA (K : PySem.W.Frag) : R2 := fun x y H Q => rIx K x y H Q ∨ rIxK x y H Q
theorem ix_any (hu : X.A.units + 66 < cLine) : IxR X (rIxA X.K) := ix_seq.or (ix_dict hu)
def oO : Option D → Out R
  | some d => .ok (.cl d)
  | none => .st
def dIx (x i : D) : Out R := match x, i with
  | .lst ds, .int i => oO (atI ds i)
  | .tup ds, .int i => oO (atI ds i)
  | .scr ns, .int i => oO ((atI ns i).map D.int)
  | .str z, .int i => if z.length ≤ 16777216 then oO ((atI z.cps.toList i).map fun c => D.str ⟨#[c]⟩) else .st
  | .dct kvs, k => match dKey k with
    | some k => oO (dLook kvs k)
    | none => .st
  | .dcz kvs, k => match dKey k with
    | some k => oO (dLook kvs k)
    | none => .st
  | _, _ => .st
theorem DRs.at {xs : List V} {ds : List D} {i : Int} {d : D} (r : DRs K F xs ds) (h : atI ds i = some d) : ∃ x, atI xs i = some x ∧ DR K F x d := by
  unfold atI at h ⊢
  rw [r.len]
  cases e : ixN ds.length i with
  | none => rw [e] at h; cases h
  | some j => rw [e] at h; exact r.get (i := j) h
theorem oO_some {o : Option D} (h : okV K F H Q (oO o)) : ∃ d, o = some d ∧ okV K F H Q (.ok (.cl d)) := by
  cases o with
  | none => exact h.elim
  | some d => exact ⟨d, rfl, h⟩
theorem o2_ix : Op2 K (rIxA K) dIx := by
  intro F H x y a b Q s hx hy h
  unfold dIx at h
  split at h
  · obtain ⟨d, e, h⟩ := oO_some h
    obtain ⟨l, xs, rfl, q1, r1⟩ := hx.lst s
    obtain ⟨z, e1, r2⟩ := r1.at e
    exact .inl (.inl ⟨_, _, _, z, rfl, hy.int, .of q1, e1, okV_cl s h r2⟩)
  · obtain ⟨d, e, h⟩ := oO_some h
    obtain ⟨l, xs, rfl, q1, r1⟩ := hx.tup s
    obtain ⟨z, e1, r2⟩ := r1.at e
    exact .inl (.inr (.inl ⟨_, _, _, z, rfl, hy.int, q1, e1, okV_cl s h r2⟩))
  · rename_i ns i
    obtain ⟨d, e, h⟩ := oO_some h
    obtain ⟨l, rfl, q1⟩ := hx.scr s
    cases e0 : atI ns i with
    | none => rw [e0] at e; cases e
    | some k =>
      rw [e0] at e
      cases e
      have e1 : atI (ns.map V.int) i = some (.int k) := by
        unfold atI at e0 ⊢
        rw [List.length_map]
        cases e2 : ixN ns.length i with
        | none => rw [e2] at e0; cases e0
        | some j =>
          rw [e2] at e0
          show (ns.map V.int)[j]? = _
          rw [List.getElem?_map, show ns[j]? = some k from e0]
          rfl
      exact .inl (.inl ⟨_, _, _, _, rfl, hy.int, q1, e1, okV_cl s h (.int _)⟩)
  · rename_i z i
    obtain ⟨c, h⟩ := if_some h
    obtain ⟨d, e, h⟩ := oO_some h
    cases e0 : atI z.cps.toList i with
    | none => rw [e0] at e; cases e
    | some k =>
      rw [e0] at e
      cases e
      exact .inl (.inr (.inr ⟨_, _, _, hx.str, hy.int, (by rw [sizeLine_eq]; exact c), e0, okV_cl s h (.str _)⟩))
  · split at h
    · rename_i k' e1
      obtain ⟨d, e, h⟩ := oO_some h
      obtain ⟨l, ks, rfl, e2, r⟩ := hx.dct s
      have g := DGet.k (k := k') e2
      rw [← dKey_v hy e1] at g
      have lk := r.look (k := k')
      rw [e] at lk
      obtain ⟨v, lk, rv⟩ := lk
      rw [lk] at g
      exact .inr ⟨l, v, rfl, g, okV_cl s h rv⟩
    · exact h.elim
  · split at h
    · rename_i k' e1
      obtain ⟨d, e, h⟩ := oO_some h
      obtain ⟨l, o, ks, rfl, e2, r⟩ := hx.dcz s
      have g : DGet H l (kV k') (valV ks k') := .inl ⟨ks, k', .inr ⟨o, e2⟩, rfl, rfl⟩
      rw [← dKey_v hy e1] at g
      have lk := r.look (k := k')
      rw [e] at lk
      obtain ⟨v, lk, rv⟩ := lk
      rw [lk] at g
      exact .inr ⟨l, v, rfl, g, okV_cl s h rv⟩
    · exact h.elim
  · exact h.elim
theorem n_oO (o : Option D) : noEx (oO o) := by cases o <;> trivial
theorem n_ix : ∀ a b, noEx (dIx a b) := by
  intro a b; unfold dIx; repeat' (first | trivial | exact n_oO _ | split)
theorem ev_ix {W : WX} {pos : Pos} {a b : Expr} {f g : Sx} (hu : X.A.units + 66 < cLine) (ha : EV X W a f) (hb : EV X W b g) (hs : PlainIx b) : EV X W (.Subscript a b pos) (e2 dIx f g) :=
  (pe_ix (ix_any hu) ha hb hs).imp fun _ _ _ h => t2_of o2_ix n_ix h

/-! ### slices -/
def cutD {α : Type} (xs : List α) (lo hi : Option Int) : List α := (xs.drop (HT.sIx xs.length 0 lo)).take (HT.sIx xs.length xs.length hi - HT.sIx xs.length 0 lo)
theorem DRs.cut {xs : List V} {ds : List D} (r : DRs K F xs ds) (lo hi : Option Int) : DRs K F (cutV xs lo hi) (cutD ds lo hi) := by
  unfold cutV cutD
  rw [r.len]
  exact (r.drop _).take _
def dCut (x : D) (lo hi : Option Int) : Out R := match x with
  | .lst ds => oD (.lst (cutD ds lo hi))
  | .tup ds => cD (.tup (cutD ds lo hi))
  | .scr ns => oD (.lst ((cutD ns lo hi).map D.int))
  | .str z => if z.length ≤ 16777216 then cD (.str (cutS z lo hi)) else .st
  | _ => .st
def oInt : Out R → Out (Option Int)
  | .ok r => match r.d with
    | .int i => .ok (some i)
    | _ => .st
  | .ex c => .ex c
  | .st => .st
def ePart : Option Sx → Env → Out (Option Int)
  | none, _ => .ok none
  | some f, env => oInt (f env)
def eCut (f : Sx) (l h : Option Sx) : Sx := fun env => match f env with
  | .ok r => (match ePart l env with
    | .ok lo => (match ePart h env with
      | .ok hi => dCut r.d lo hi
      | .ex c => .ex c
      | .st => .st)
    | .ex c => .ex c
    | .st => .st)
  | .ex c => .ex c
  | .st => .st
def rSlAny (K : PySem.W.Frag) : V → Option Int → Option Int → Hp → VK → Prop := fun x lo hi H Q => rSlL K x lo hi H Q ∨ rSlN K x lo hi H Q ∨ (∃ z, x = .str z ∧ z.length ≤ sizeLine ∧ Q (.str (cutS z lo hi)) H)
theorem sl_any : SlR X (rSlAny X.K) := sl_list.or (sl_tupN.or sl_str)
theorem cut_whole {α : Type} (xs : List α) (lo hi : Option Int) (h : HT.sIx xs.length 0 lo = 0 ∧ HT.sIx xs.length xs.length hi = xs.length) : cutD xs lo hi = xs := by
  unfold cutD
  rw [h.1, h.2, List.drop_zero, Nat.sub_zero, List.take_length]
theorem cut_ints (ns : List Int) (lo hi : Option Int) : cutV (ns.map V.int) lo hi = (cutD ns lo hi).map V.int := by
  unfold cutV cutD
  rw [List.length_map, List.map_take, List.map_drop]
theorem sl_ok {x : V} {a : D} {lo hi : Option Int} (s : Same F H) (hx : DV K F H x a) (h : okV K F H Q (dCut a lo hi)) : rSlAny K x lo hi H Q := by
  cases a <;> first | exact (False.elim h) | skip
  · rename_i z
    obtain ⟨c, h⟩ := if_some h
    exact .inr (.inr ⟨_, hx.str, (by rw [sizeLine_eq]; exact c), okV_cl s h (.str _)⟩)
  · rename_i ds
    obtain ⟨l, xs, rfl, q1, r1⟩ := hx.tup s
    refine .inr (.inl ⟨_, _, rfl, q1, fun w => ?_, fun _ => okV_new s h (r1.cut lo hi)⟩)
    rw [r1.len] at w
    have e := cut_whole ds lo hi w
    have h' : okV K F H Q (.ok (.cl (.tup (cutD ds lo hi)))) := h
    rw [e] at h'
    exact okV_cl s h' hx.tupF
  · obtain ⟨l, xs, rfl, q1, r1⟩ := hx.lst s
    exact .inl ⟨_, _, rfl, .of q1, okV_newL s h (r1.cut lo hi)⟩
  · rename_i ns
    obtain ⟨l, rfl, q1⟩ := hx.scr s
    refine .inl ⟨_, _, rfl, q1, ?_⟩
    rw [cut_ints]
    exact okV_newL s h (.of_ints _)
theorem n_cut (a : D) (lo hi : Option Int) : noEx (dCut a lo hi) := by
  unfold dCut cD oD; repeat' (first | trivial | split)
/-- a part of a slice -/
def tO (K : PySem.W.Frag) (mg : Str → Option Value) (W : WX) (f : Env → Out (Option Int)) : TO := fun σ H Q => ∃ F env, Rel K F H σ env ∧ match f env with
  | .ok i => ∀ F' H', Ext F H F' H' → Q i H'
  | .ex c => ∀ F' H' cls, Ext F H F' H' → mg (Str.ofString c) = some cls → W cls none σ H'
  | .st => False
def OV (X : Cx) (W : WX) (e : Option Expr) (f : Env → Out (Option Int)) : Prop := PO X e (tO X.K X.mg W f)
theorem _root_.L2.PO.imp {X : Cx} {e : Option Expr} {t t' : TO} (h : PO X e t) (k : ∀ σ H Q, t' σ H Q → t σ H Q) : PO X e t' := ⟨fun pins s σ H Q I q => h.run pins s σ H Q I (k _ _ _ q)⟩
theorem ov_none {W : WX} : OV X W none (ePart none) := po_none.imp fun σ H Q h => by
  obtain ⟨F, env, r, h⟩ := h
  exact h F H (.refl r.sub)
theorem ov_some {W : WX} {e : Expr} {f : Sx} (h : EV X W e f) : OV X W (some e) (ePart (some f)) := (po_some h).imp fun σ H Q h => by
  obtain ⟨F, env, r, h⟩ := h
  refine ⟨F, env, r, ?_⟩
  unfold ePart oInt at h
  cases e : f env with
  | ok ra =>
    simp only [e] at h
    cases e2 : ra.d <;> simp only [e2] at h <;> first | exact h.elim | skip
    intro F1 H1 v x q
    have q2 := q.dv
    rw [e2] at q2
    exact ⟨_, q2.int, h F1 H1 x⟩
  | ex c => simp only [e] at h; exact h
  | st => simp only [e] at h
theorem ev_cut {W : WX} {pos p2 : Pos} {e : Expr} {lo hi : Option Expr} {f : Sx} {l h : Option Sx} (he : EV X W e f) (hl : OV X W lo (ePart l)) (hh : OV X W hi (ePart h)) : EV X W (.Subscript e (.Slice lo hi none p2) pos) (eCut f l h) :=
  (pe_slice sl_any he hl hh).imp fun σ H Q z => by
    obtain ⟨F, env, r, z⟩ := z
    refine ⟨F, env, r, ?_⟩
    unfold eCut at z
    cases e : f env with
    | ok ra =>
      simp only [e] at z
      intro F1 H1 v x q
      refine ⟨F1, env, r.ext x, ?_⟩
      cases e1 : ePart l env with
      | ok lo =>
        simp only [e1] at z
        intro F2 H2 x2
        refine ⟨F2, env, r.ext (x.trans x2), ?_⟩
        cases e3 : ePart h env with
        | ok hi =>
          simp only [e3] at z
          intro F3 H3 x3
          exact sl_ok x3.fh ((x2.trans x3).dv q.dv) (okE_okV (x.trans (x2.trans x3)) (n_cut _ _ _) z)
        | ex c => simp only [e3] at z; exact fun F3 H3 cls x3 m => z F3 H3 cls (x.trans (x2.trans x3)) m
        | st => simp only [e3] at z; exact z
      | ex c => simp only [e1] at z; exact fun F3 H3 cls x3 m => z F3 H3 cls (x.trans x3) m
      | st => simp only [e1] at z; exact z
    | ex c => simp only [e] at z; exact z
    | st => simp only [e] at z; exact z

/-! ### a built-in called on one value -/
theorem ev_callB {W : WX} {pos p : Pos} {e : Expr} {x : Str} {id : String} {r : List V → Hp → VK → Prop} {φ : D → Out R} {f : Sx} (hc : CallR X (.builtin id) r) (o : Op1 X.K (fun x => r [x]) φ) (n : ∀ a, noEx (φ a)) (hg : Gl X x) (hm : X.mg x = none) (hv : bootBuiltins x = some (.builtin id)) (ha : EV X W e f)
    (hn : x ≠ "__name__" := by decide) (hdb : (x == ("__debug__" : Str)) = false := by decide) (he : starEach [e] X.env = (false, eval e X.env) :: starEach [] X.env := by rfl) : EV X W (.Call (.Name x p) [e] [] pos) (e1 φ f) :=
  (pe_callB hc hg hm hv (pa_cons ha pa_nil he) hn hdb he rfl).imp fun _ _ _ h => t1_of o n h
theorem ev_callT {W : WX} {pos p : Pos} {e : Expr} {x : Str} {T : String} {r : List V → Hp → VK → Prop} {φ : D → Out R} {f : Sx} (hc : CallR X (.type T) r) (o : Op1 X.K (fun x => r [x]) φ) (n : ∀ a, noEx (φ a)) (hg : Gl X x) (hm : X.mg x = none) (hv : bootBuiltins x = some (.type T)) (ha : EV X W e f)
    (hn : x ≠ "__name__" := by decide) (hdb : (x == ("__debug__" : Str)) = false := by decide) (he : starEach [e] X.env = (false, eval e X.env) :: starEach [] X.env := by rfl) : EV X W (.Call (.Name x p) [e] [] pos) (e1 φ f) :=
  (pe_callTy hc hg hm hv (pa_cons ha pa_nil he) hn hdb he rfl).imp fun _ _ _ h => t1_of o n h
/-- .. on two -/
theorem ev_callB2 {W : WX} {pos p : Pos} {a b : Expr} {x : Str} {id : String} {r : List V → Hp → VK → Prop} {φ : D → D → Out R} {f g : Sx} (hc : CallR X (.builtin id) r) (o : Op2 X.K (fun x y => r [x, y]) φ) (n : ∀ a b, noEx (φ a b)) (hg : Gl X x) (hm : X.mg x = none) (hv : bootBuiltins x = some (.builtin id)) (ha : EV X W a f) (hb : EV X W b g)
    (hn : x ≠ "__name__" := by decide) (hdb : (x == ("__debug__" : Str)) = false := by decide) (he : starEach [a, b] X.env = (false, eval a X.env) :: starEach [b] X.env := by rfl) (he2 : starEach [b] X.env = (false, eval b X.env) :: starEach [] X.env := by rfl) : EV X W (.Call (.Name x p) [a, b] [] pos) (e2 φ f g) :=
  (pe_callB hc hg hm hv (pa_cons ha (pa_cons hb pa_nil he2) he) hn hdb he (by rw [he2]; rfl)).imp fun _ _ _ h => t2_of o n h
/-- len -/
def dLen : D → Out R
  | .str s => if s.length ≤ 16777216 then cI s.length else .st
  | .lst l => cI l.length
  | .tup l => cI l.length
  | .dct l => cI l.length
  | .scr l => cI l.length
  | _ => .st
def rLen (K : PySem.W.Frag) : List V → Hp → VK → Prop := fun xs H Q => (∃ x n, xs = [x] ∧ LenV K x H n ∧ Q (.int n) H) ∨ ∃ a kvs, xs = [V.ref a] ∧ H a = some (.dK kvs) ∧ Q (.int kvs.length) H
theorem call_lenA : CallR X (.builtin "len") (rLen X.K) := call_len.or call_lenD
theorem o1_len : Op1 K (fun x => rLen K [x]) dLen := by
  intro F H x a Q s hx h
  cases a <;> first | exact (False.elim h) | skip
  · obtain ⟨c, h⟩ := if_some h
    have e := hx.str
    subst e
    exact .inl ⟨_, _, rfl, ⟨by rw [sizeLine_eq]; exact c, rfl⟩, okV_cl s h (.int _)⟩
  · obtain ⟨l, xs, rfl, q1, r1⟩ := hx.tup s
    exact .inl ⟨_, _, rfl, .inr ⟨xs, q1, r1.len.symm⟩, okV_cl s h (.int _)⟩
  · obtain ⟨l, xs, rfl, q1, r1⟩ := hx.lst s
    exact .inl ⟨_, _, rfl, .inl ⟨xs, .of q1, r1.len.symm⟩, okV_cl s h (.int _)⟩
  · obtain ⟨l, xs, rfl, q1, r1⟩ := hx.dct s
    have h' := okV_cl s h (.int _)
    rw [← r1.len] at h'
    exact .inr ⟨_, _, rfl, q1, h'⟩
  · obtain ⟨l, rfl, q1⟩ := hx.scr s
    exact .inl ⟨_, _, rfl, .inl ⟨_, q1, (List.length_map _).symm⟩, okV_cl s h (.int _)⟩
theorem n_len : ∀ a, noEx (dLen a) := by
  intro a; unfold dLen cI; repeat' (first | trivial | split)
/-- tuple(..), list(..) -/
def dTuple : D → Out R
  | .lst l => cD (.tup l)
  | .tup l => cD (.tup l)
  | .scr l => cD (.tup (l.map D.int))
  | _ => .st
theorem o1_tuple : Op1 K (fun x H Q => ∃ p ys, [x] = [V.ref p] ∧ ((SqL K H p ys ∧ NewT H Q ys) ∨ (SqT K H p ys ∧ Q (.ref p) H))) dTuple := by
  intro F H x a Q s hx h
  cases a <;> first | exact (False.elim h) | skip
  · obtain ⟨l, xs, rfl, q1, r1⟩ := hx.tup s
    exact ⟨_, _, rfl, .inr ⟨q1, okV_cl s h hx.tupF⟩⟩
  · obtain ⟨l, xs, rfl, q1, r1⟩ := hx.lst s
    exact ⟨_, _, rfl, .inl ⟨.of q1, okV_new s h r1⟩⟩
  · obtain ⟨l, rfl, q1⟩ := hx.scr s
    exact ⟨_, _, rfl, .inl ⟨q1, okV_new s h (.of_ints _)⟩⟩
theorem n_tuple : ∀ a, noEx (dTuple a) := by
  intro a; unfold dTuple cD; repeat' (first | trivial | split)
def dList : D → Out R
  | .lst l => oD (.lst l)
  | .tup l => oD (.lst l)
  | .scr l => oD (.lst (l.map D.int))
  | _ => .st
theorem o1_list : Op1 K (fun x H Q => ∃ p ys, [x] = [V.ref p] ∧ (SqL K H p ys ∨ SqT K H p ys) ∧ ∀ l, H l = none → Q (.ref l) (upd H l (.lst ys))) dList := by
  intro F H x a Q s hx h
  cases a <;> first | exact (False.elim h) | skip
  · obtain ⟨l, xs, rfl, q1, r1⟩ := hx.tup s
    exact ⟨_, _, rfl, .inr q1, okV_newL s h r1⟩
  · obtain ⟨l, xs, rfl, q1, r1⟩ := hx.lst s
    exact ⟨_, _, rfl, .inl (.of q1), okV_newL s h r1⟩
  · obtain ⟨l, rfl, q1⟩ := hx.scr s
    exact ⟨_, _, rfl, .inl q1, okV_newL s h (.of_ints _)⟩
theorem n_list : ∀ a, noEx (dList a) := by
  intro a; unfold dList oD; repeat' (first | trivial | split)
/-- lists of truths, of ints -/
def blsOf : List D → Option (List Bool)
  | [] => some []
  | .bl b :: r => (blsOf r).map (b :: ·)
  | _ => none
def intsOf : List D → Option (List Int)
  | [] => some []
  | .int b :: r => (intsOf r).map (b :: ·)
  | _ => none
theorem blsOf_eq : ∀ {ds : List D} {bs : List Bool}, blsOf ds = some bs → ds = bs.map D.bl
  | [], _, e => by cases e; rfl
  | d :: r, bs, e => by
    cases d <;> first | (cases e; done) | skip
    unfold blsOf at e
    cases e1 : blsOf r with
    | none => rw [e1] at e; cases e
    | some cs => rw [e1] at e; cases e; rw [blsOf_eq e1]; rfl
theorem intsOf_eq : ∀ {ds : List D} {bs : List Int}, intsOf ds = some bs → ds = bs.map D.int
  | [], _, e => by cases e; rfl
  | d :: r, bs, e => by
    cases d <;> first | (cases e; done) | skip
    unfold intsOf at e
    cases e1 : intsOf r with
    | none => rw [e1] at e; cases e
    | some cs => rw [e1] at e; cases e; rw [intsOf_eq e1]; rfl
@[simp] theorem blsOf_map : ∀ bs : List Bool, blsOf (bs.map D.bl) = some bs
  | [] => rfl
  | b :: r => by rw [List.map_cons]; unfold blsOf; rw [blsOf_map r]; rfl
@[simp] theorem intsOf_map : ∀ bs : List Int, intsOf (bs.map D.int) = some bs
  | [] => rfl
  | b :: r => by rw [List.map_cons]; unfold intsOf; rw [intsOf_map r]; rfl
def dAll : D → Out R
  | .lst l => match blsOf l with
    | some bs => cB (bs.all id)
    | none => .st
  | _ => .st
def dAny : D → Out R
  | .lst l => match blsOf l with
    | some bs => cB (bs.any id)
    | none => .st
  | _ => .st
theorem o1_all : Op1 K (fun x => rAll K [x]) dAll := by
  intro F H x a Q s hx h
  cases a <;> first | exact (False.elim h) | skip
  rename_i ds
  obtain ⟨l, xs, rfl, q1, r1⟩ := hx.lst s
  simp only [dAll] at h
  split at h
  · rename_i e1
    rw [blsOf_eq e1] at r1
    have e2 := r1.bls
    subst e2
    exact ⟨_, _, rfl, .of q1, okV_cl s h (.bl _)⟩
  · exact h.elim
theorem o1_any : Op1 K (fun x => rAny K [x]) dAny := by
  intro F H x a Q s hx h
  cases a <;> first | exact (False.elim h) | skip
  obtain ⟨l, xs, rfl, q1, r1⟩ := hx.lst s
  simp only [dAny] at h
  split at h
  · rename_i e1
    rw [blsOf_eq e1] at r1
    have e2 := r1.bls
    subst e2
    exact ⟨_, _, rfl, .of q1, okV_cl s h (.bl _)⟩
  · exact h.elim
theorem n_all : ∀ a, noEx (dAll a) := by
  intro a; unfold dAll cB; repeat' (first | trivial | split)
theorem n_any : ∀ a, noEx (dAny a) := by
  intro a; unfold dAny cB; repeat' (first | trivial | split)
def dSum : D → Out R
  | .lst l => match intsOf l with
    | some bs => cI bs.sum
    | none => .st
  | _ => .st
theorem o1_sum : Op1 K (fun x => rSum K [x]) dSum := by
  intro F H x a Q s hx h
  cases a <;> first | exact (False.elim h) | skip
  obtain ⟨l, xs, rfl, q1, r1⟩ := hx.lst s
  simp only [dSum] at h
  split at h
  · rename_i e1
    rw [intsOf_eq e1] at r1
    have e2 := r1.ints
    subst e2
    exact ⟨_, _, rfl, .of q1, okV_cl s h (.int _)⟩
  · exact h.elim
theorem n_sum : ∀ a, noEx (dSum a) := by
  intro a; unfold dSum cI; repeat' (first | trivial | split)
def dAbs : D → Out R
  | .int i => cI (if i < 0 then -i else i)
  | _ => .st
theorem o1_abs : Op1 K (fun x H Q => ∃ i, [x] = [V.int i] ∧ Q (.int (if i < 0 then -i else i)) H) dAbs := by
  intro F H x a Q s hx h
  cases a <;> first | exact (False.elim h) | skip
  have e := hx.int
  subst e
  exact ⟨_, rfl, okV_cl s h (.int _)⟩
theorem n_abs : ∀ a, noEx (dAbs a) := by
  intro a; unfold dAbs cI; repeat' (first | trivial | split)
def dToInt : D → Out R
  | .int i => cI i
  | .bl b => cI (if b then 1 else 0)
  | _ => .st
theorem o1_toInt : Op1 K (fun x H Q => (∃ i, [x] = [V.int i] ∧ Q (.int i) H) ∨ ∃ k, [x] = [V.bl k] ∧ Q (.int (if k then 1 else 0)) H) dToInt := by
  intro F H x a Q s hx h
  cases a <;> first | exact (False.elim h) | skip
  · have e := hx.bl
    subst e
    exact .inr ⟨_, rfl, okV_cl s h (.int _)⟩
  · have e := hx.int
    subst e
    exact .inl ⟨_, rfl, okV_cl s h (.int _)⟩
theorem n_toInt : ∀ a, noEx (dToInt a) := by
  intro a; unfold dToInt cI; repeat' (first | trivial | split)
def dMax2 : D → D → Out R
  | .int i, .int j => cI (if j > i then j else i)
  | _, _ => .st
theorem o2_max2 : Op2 K (fun x y H Q => ∃ i j, [x, y] = [V.int i, V.int j] ∧ Q (.int (if j > i then j else i)) H) dMax2 := by
  intro F H x y a b Q s hx hy h
  cases a <;> first | exact (False.elim h) | skip
  cases b <;> first | exact (False.elim h) | skip
  have e := hx.int
  subst e
  have e := hy.int
  subst e
  exact ⟨_, _, rfl, okV_cl s h (.int _)⟩
theorem n_max2 : ∀ a b, noEx (dMax2 a b) := by
  intro a b; unfold dMax2 cI; repeat' (first | trivial | split)
/-- isinstance(x, T), T a built-in type -/
def D.ty : D → String
  | .non => "NoneType"
  | .bl _ => "bool"
  | .int _ => "int"
  | .str _ => "str"
  | .tup _ => "tuple"
  | .lst _ => "list"
  | .dct _ => "dict"
  | .scr _ => "list"
  | .dcz _ => "dict"
  | .dtk _ _ => "dict"
def isaT (T t : String) : Bool := decide (t = T) || (decide (t = "bool") && decide (T = "int"))
def isaB (T : String) (d : D) : Bool := isaT T d.ty
def dIsa (T : String) (d : D) : Out R := cB (isaB T d)
/-- .. dicts with tuples as keys, too -/
inductive TyY (K : PySem.W.Frag) (H : Hp) : V → Value → Prop where
  | x {x : V} {t : Value} (h : TyX K H x t) : TyY K H x t
  | tk {a : Addr} {ob : Obj} (e : H a = some (.ext fun h => h.get? a = some ob)) (c : ob.cls = .type "dict") : TyY K H (.ref a) (.type "dict")
def rIsiY (K : PySem.W.Frag) : List V → Hp → VK → Prop := fun xs H Q => ∃ (x c : V) (t u : Value) (b : Bool), xs = [x, c] ∧ ClsV c u ∧ TyY K H x t ∧ PySem.W.kitOne K t u = some b ∧ Q (.bl b) H
theorem call_isiY : CallR X (.builtin "isinstance") (rIsiY X.K) := by
  intro pins s σ H xs us Q I r h
  obtain ⟨x, c, t, u, b, rfl, k, ty, e, q⟩ := h
  cases ty with
  | x ty => exact call_isi pins s σ H [x, c] us Q I r ⟨x, c, t, u, b, rfl, k, ty, e, q⟩
  | @tk a ob ea hc =>
    obtain ⟨u1, u2, rfl, r1, r2⟩ := Vals.two r
    have e2 := k.eq r2
    subst e2
    cases (show u1 = Value.ref a from r1)
    obtain ⟨g, _⟩ := (show ObjOk X.prog X.w H s.heap a (.ext fun h => h.get? a = some ob) from I.hok a _ ea)
    exact PySem.W.kia_one PySem.W.kitx_dict I.kIn ⟨ob, g, hc⟩ e (fun z => nomatch z) fun tk => ⟨.bl b, H, I.tok tk, rfl, q⟩
theorem DV.tyX {x : V} {a : D} (s : Same F H) (h : DV K F H x a) : TyY K H x (.type a.ty) := by
  cases a with
  | dtk ks ds =>
    rcases h with h | ⟨l, rfl, o⟩
    · cases h with
      | dtk q r =>
        obtain ⟨ob, es, ep, ts, q, h2, _⟩ := q
        exact .tk (s _ _ q) h2.1
    · obtain ⟨us, q, r⟩ := o
      obtain ⟨ob, es, ep, ts, q, h2, _⟩ := q
      exact .tk q h2.1
  | non => rw [h.non]; exact .x (.base .non)
  | bl b => rw [h.bl]; exact .x (.base (.bl _))
  | int b => rw [h.int]; exact .x (.base (.int _))
  | str b => rw [h.str]; exact .x (.base (.str _))
  | tup ds =>
    obtain ⟨l, xs, rfl, q1, r1⟩ := h.tup s
    rcases q1 with (q | ⟨o, q⟩) | ⟨o, its, n, q, c, _⟩
    · exact .x (.base (.tup q))
    · exact .x (.fTuple q)
    · exact .x (.kTuple q c)
  | lst ds =>
    obtain ⟨l, xs, rfl, q1, r1⟩ := h.lst s
    exact .x (.base (.lst q1))
  | dct ds =>
    obtain ⟨l, xs, rfl, q1, r1⟩ := h.dct s
    exact .x (.base (.dK q1))
  | scr ds =>
    obtain ⟨l, rfl, q1⟩ := h.scr s
    rcases q1 with (q | ⟨o, q⟩) | ⟨o, its, n, q, c, _⟩
    · exact .x (.base (.lst q))
    · exact .x (.base (.frz q))
    · exact .x (.kList q c)
  | dcz ds =>
    obtain ⟨l, o, xs, rfl, q1, r1⟩ := h.dcz s
    exact .x (.fDict q1)
theorem ev_isa {W : WX} {pos p p2 : Pos} {e : Expr} {T : Str} {f : Sx} {U : String} (hg : Gl X "isinstance") (hm : X.mg "isinstance" = none) (hgT : Gl X T) (hmT : X.mg T = none) (hT : bootBuiltins T = some (.type U)) (ha : EV X W e f)
    (kT : ∀ d : D, kitB d.ty U = some (isaB U d)) (hn : T ≠ "__name__" := by decide) (hdb : (T == ("__debug__" : Str)) = false := by decide)
    (he : starEach [e, .Name T p2] X.env = (false, eval e X.env) :: starEach [.Name T p2] X.env := by rfl) : EV X W (.Call (.Name "isinstance" p) [e, .Name T p2] [] pos) (e1 (dIsa U) f) :=
  (pe_callB call_isiY hg hm (by decide +kernel) (pa_cons ha (pa_cons (pe_bltn (v := .ty U) hgT hmT hT rfl hn hdb) pa_nil) he) (by decide) (by decide) he rfl).imp fun σ H Q h => by
    refine t1_of (K := X.K) (mg := X.mg) (W := W) (r := fun x H Q => rIsiY X.K [x, .ty U] H Q) (φ := dIsa U) (fun F H x a Q s hx h => ?_) (fun a => trivial) h
    exact ⟨x, .ty U, .type a.ty, .type U, isaB U a, rfl, .ty U, hx.tyX s, kit_ty (kT a), okV_cl s h (.bl _)⟩
def tys : List String := ["NoneType", "bool", "int", "str", "tuple", "list", "dict"]
theorem ty_mem (d : D) : d.ty ∈ tys := by cases d <;> simp [D.ty, tys]
theorem kT_int (d : D) : kitB d.ty "int" = some (isaB "int" d) := (show ∀ t ∈ tys, kitB t "int" = some (isaT "int" t) by decide +kernel) _ (ty_mem d)
theorem kT_bool (d : D) : kitB d.ty "bool" = some (isaB "bool" d) := (show ∀ t ∈ tys, kitB t "bool" = some (isaT "bool" t) by decide +kernel) _ (ty_mem d)
theorem kT_tuple (d : D) : kitB d.ty "tuple" = some (isaB "tuple" d) := (show ∀ t ∈ tys, kitB t "tuple" = some (isaT "tuple" t) by decide +kernel) _ (ty_mem d)
theorem kT_list (d : D) : kitB d.ty "list" = some (isaB "list" d) := (show ∀ t ∈ tys, kitB t "list" = some (isaT "list" t) by decide +kernel) _ (ty_mem d)
theorem kT_str (d : D) : kitB d.ty "str" = some (isaB "str" d) := (show ∀ t ∈ tys, kitB t "str" = some (isaT "str" t) by decide +kernel) _ (ty_mem d)
theorem kT_dict (d : D) : kitB d.ty "dict" = some (isaB "dict" d) := (show ∀ t ∈ tys, kitB t "dict" = some (isaT "dict" t) by decide +kernel) _ (ty_mem d)
end
end Fs

set_option maxHeartbeats 4000000
namespace Fs
open PySem PySem.Spec PyProof.Rows L2
abbrev W0 : WX := fun _ _ _ _ => False

/-! ### arguments, displays, calls -/
def consO (d : D) : Out (List D) → Out (List D)
  | .ok ds => .ok (d :: ds)
  | .ex c => .ex c
  | .st => .st
def evArgs : List Sx → Env → Out (List D)
  | [], _ => .ok []
  | f :: fs, env => match f env with
    | .ok (.bo _) => .st
    | .ok r => consO r.d (evArgs fs env)
    | .ex c => .ex c
    | .st => .st
section
variable {K : PySem.W.Frag} {mg : Str → Option Value} {W : WX} {F F1 H H1 : Hp} {Q : VK} {v : V} {r : R}
/-- what isn't borrowed may be kept -/
def R.keeps : R → Prop
  | .bo _ => False
  | _ => True
theorem freeze (e : Ext F H F1 H1) (q : RV K F1 H H1 v r) (n : r.keeps) : ∃ F2, Ext F H F2 H1 ∧ Same F1 F2 ∧ DR K F2 v r.d := by
  cases r with
  | cl d => exact ⟨F1, e, .refl _, q⟩
  | bo d => exact n.elim
  | ow d =>
    obtain ⟨l, rfl, n0, f, o⟩ := q
    cases d <;> first | exact (False.elim o) | skip
    · obtain ⟨xs, h, r⟩ := o
      have e2 := Ext.frz e.fh f h n0 e.hh F e
      have sm : Same F1 (upd F1 l (.lst xs)) := fun b u q => by rw [upd_ne (ne_of_none q f)]; exact q
      exact ⟨_, e2, sm, .lst upd_same (r.mono sm)⟩
    · obtain ⟨xs, h, r⟩ := o
      have e2 := Ext.frz e.fh f h n0 e.hh F e
      have sm : Same F1 (upd F1 l (.dK xs)) := fun b u q => by rw [upd_ne (ne_of_none q f)]; exact q
      exact ⟨_, e2, sm, .dct upd_same (r.mono sm)⟩
    · obtain ⟨us, h, r⟩ := o
      obtain ⟨φ, g⟩ := h.at_
      have e2 := Ext.frz e.fh f g n0 e.hh F e
      have sm : Same F1 (upd F1 l (.ext φ)) := fun b u q => by rw [upd_ne (ne_of_none q f)]; exact q
      exact ⟨_, e2, sm, .dtk (h.mono sm (by rw [upd_same]; exact g)) (r.mono sm)⟩
def okA (K : PySem.W.Frag) (mg : Str → Option Value) (W : WX) (F H : Hp) (σ : Sg) (Q : List V → Hp → Prop) : Out (List D) → Prop
  | .ok ds => ∀ F' H' vs, Ext F H F' H' → DRs K F' vs ds → Q vs H'
  | .ex c => ∀ F' H' cls, Ext F H F' H' → mg (Str.ofString c) = some cls → W cls none σ H'
  | .st => False
def tAs (K : PySem.W.Frag) (mg : Str → Option Value) (W : WX) (fs : List Sx) : TA := fun σ H Q => ∃ F env, Rel K F H σ env ∧ okA K mg W F H σ Q (evArgs fs env)
def AV (X : Cx) (W : WX) (es : List Expr) (fs : List Sx) : Prop := PA X es (tAs X.K X.mg W fs)
end
section
variable {X : Cx} {W : WX} {pos : Pos}
theorem av_nil : AV X W [] [] := pa_nil.imp fun σ H Q h => by
  obtain ⟨F, env, r, h⟩ := h
  exact h F H [] (.refl r.sub) .nil
theorem av_cons {e : Expr} {es : List Expr} {f : Sx} {fs : List Sx} (ha : EV X W e f) (hr : AV X W es fs) (hs : starEach (e :: es) X.env = (false, eval e X.env) :: starEach es X.env := by rfl) : AV X W (e :: es) (f :: fs) := (pa_cons ha hr hs).imp fun σ H Q h => by
  obtain ⟨F, env, rl, h⟩ := h
  refine ⟨F, env, rl, ?_⟩
  unfold evArgs at h
  cases e : f env with
  | ok r =>
    simp only [e] at h
    have go : ∀ (n : r.keeps), okA X.K X.mg W F H σ Q (consO r.d (evArgs fs env)) → okE X.K X.mg W F H σ (fun x H1 => tAs X.K X.mg W fs σ H1 fun xs H2 => Q (x :: xs) H2) (.ok r) := by
      intro n h F1 H1 v x q
      obtain ⟨F2, x2, sm, dr⟩ := freeze x q n
      refine ⟨F2, env, rl.ext x2, ?_⟩
      cases e2 : evArgs fs env with
      | ok ds => rw [e2] at h; exact fun F3 H3 vs x3 rs => h F3 H3 _ (x2.trans x3) (.cons (dr.mono x3.ff) rs)
      | ex c => rw [e2] at h; exact fun F3 H3 cls x3 m => h F3 H3 cls (x2.trans x3) m
      | st => rw [e2] at h; exact h
    cases r with
    | cl d => exact go trivial h
    | ow d => exact go trivial h
    | bo d => exact h.elim
  | ex c => simp only [e] at h; exact h
  | st => simp only [e] at h; exact h
theorem evArgs_len : ∀ {fs : List Sx} {env : Env} {ds : List D}, evArgs fs env = .ok ds → ds.length = fs.length
  | [], _, _, e => by cases e; rfl
  | f :: fs, env, ds, e => by
    unfold evArgs at e
    cases e1 : f env with
    | ok r =>
      cases r <;> simp only [e1] at e <;> first | (cases e; done) | skip
      all_goals
        cases e2 : evArgs fs env with
        | ok es => rw [e2] at e; cases e; rw [List.length_cons, List.length_cons, evArgs_len e2]
        | ex c => rw [e2] at e; cases e
        | st => rw [e2] at e; cases e
    | ex c => simp only [e1] at e; cases e
    | st => simp only [e1] at e; cases e
def mapO (φ : List D → Out R) : Out (List D) → Out R
  | .ok ds => φ ds
  | .ex c => .ex c
  | .st => .st
def eTup (fs : List Sx) : Sx := fun env => mapO (fun ds => .ok (.cl (.tup ds))) (evArgs fs env)
def eLst (fs : List Sx) : Sx := fun env => mapO (fun ds => .ok (.ow (.lst ds))) (evArgs fs env)
def eCall (g : List D → Out R) (fs : List Sx) : Sx := fun env => mapO g (evArgs fs env)
theorem ev_tup {es : List Expr} {x1} {fs : List Sx} (h : AV X W es fs) (hl : fs.length ≤ 1000 := by first | decide | exact Nat.le_of_ble_eq_true rfl) : EV X W (.Tuple es x1 pos) (eTup fs) := (pe_tupN h).imp fun σ H Q z => by
  obtain ⟨F, env, rl, z⟩ := z
  refine ⟨F, env, rl, ?_⟩
  unfold eTup at z
  cases e : evArgs fs env with
  | ok ds =>
    rw [e] at z
    intro F1 H1 vs x rs
    refine ⟨by rw [rs.len, evArgs_len e, sizeLine_eq]; omega, fun p o hn n => ?_⟩
    exact z _ _ _ (x.trans (.new x.fh n)) (.tup (.new hn) (rs.mono (Ext.new x.fh n).ff))
  | ex c => rw [e] at z; exact z
  | st => rw [e] at z; exact z
theorem ev_lst {es : List Expr} {fs : List Sx} (h : AV X W es fs) (hl : fs.length ≤ 1000 := by first | decide | exact Nat.le_of_ble_eq_true rfl) : EV X W (.List es pos) (eLst fs) := (pe_lst h).imp fun σ H Q z => by
  obtain ⟨F, env, rl, z⟩ := z
  refine ⟨F, env, rl, ?_⟩
  unfold eLst at z
  cases e : evArgs fs env with
  | ok ds =>
    rw [e] at z
    intro F1 H1 vs x rs
    refine ⟨by rw [rs.len, evArgs_len e, sizeLine_eq]; omega, fun p n => ?_⟩
    exact z _ _ _ (x.trans (.newO x.fh n)) ⟨p, rfl, x.hh.free n, x.fh.free n, vs, upd_same, rs⟩
  | ex c => rw [e] at z; exact z
  | st => rw [e] at z; exact z
/-- {} -/
theorem ev_dict0 : EV X W (.Dict [] [] pos) (fun _ => .ok (.ow (.dct []))) := pe_dnewK.imp fun σ H Q z => by
  obtain ⟨F, env, rl, z⟩ := z
  intro d hd
  exact z _ _ _ (.newO rl.sub hd) ⟨d, rfl, hd, rl.sub.free hd, [], upd_same, .nil⟩

/-! ### promises -/
def spG (K : PySem.W.Frag) (mg : Str → Option Value) (n : Nat) (g : List D → Out R) : Sp := fun vs H Q E => ∃ F ds, Same F H ∧ vs.length = n ∧ DRs K F vs ds ∧ match g ds with
  | .ok r => ∀ F' H' v, Ext F H F' H' → RV K F' H H' v r → Q v H'
  | .ex c => ∀ F' H' cls, Ext F H F' H' → mg (Str.ofString c) = some cls → E cls none H'
  | .st => False
/-- the def at f means g -/
abbrev FnG (P : Program) (w : World) (K : PySem.W.Frag) (mg : Str → Option Value) (base : Heap) (k : Nat) (f : Addr) (fd : FuncData) (ps : List Str) (g : List D → Out R) : Prop := FnOk P w K mg base (L2.CX P w) k f fd ps (spG K mg ps.length g)
theorem ev_call {k : Nat} {f : Addr} {fd : FuncData} {ps : List Str} {g : List D → Out R} {x : Str} {p : Pos} {e : Expr} {es : List Expr} {fs : List Sx} (FN : FnG X.prog X.w X.K X.mg X.base k f fd ps g) (hr : Room k X.A) (hg : Gl X x) (hm : X.mg x = some (.ref f)) (hk : PySem.W.keepIn X.K (.ref f) = true) (hb : Binds X.K fd ps [])
    (tk : Takes X W) (ha : AV X W (e :: es) fs) (hl : fs.length = ps.length := by rfl) (hdb : (x == ("__debug__" : Str)) = false := by decide) (he : starEach (e :: es) X.env = (false, eval e X.env) :: starEach es X.env := by rfl) (hpl : (backTo pos (starEach es X.env)).any (·.1) = false := by rfl) :
    EV X W (.Call (.Name x p) (e :: es) [] pos) (eCall g fs) := (pe_callS (E := WE W) FN hr hg hm hk hb (fun σ => passAt tk σ) ha hdb he hpl).imp fun σ H Q z => by
  obtain ⟨F, env, rl, z⟩ := z
  refine ⟨F, env, rl, ?_⟩
  unfold eCall at z
  cases e2 : evArgs fs env with
  | ok ds =>
    rw [e2] at z
    intro F1 H1 vs x rs
    refine ⟨F1, ds, x.fh, by rw [rs.len, evArgs_len e2]; exact hl, rs, ?_⟩
    have z' : okE X.K X.mg W F H σ Q (g ds) := z
    cases e3 : g ds with
    | ok r => rw [e3] at z'; exact fun F2 H2 v x2 q => z' F2 H2 v (x.trans x2) (q.back x.hh)
    | ex c => rw [e3] at z'; exact fun F2 H2 cls x2 m => z' F2 H2 cls (x.trans x2) m
    | st => rw [e3] at z'; exact z'
  | ex c => rw [e2] at z; exact z
  | st => rw [e2] at z; exact z

/-! ### tests -/
abbrev Tx := Env → Out Bool
def okT (mg : Str → Option Value) (W : WX) (F H : Hp) (σ : Sg) (Q : Bool → Hp → Prop) : Out Bool → Prop
  | .ok b => ∀ F' H', Ext F H F' H' → Q b H'
  | .ex c => ∀ F' H' cls, Ext F H F' H' → mg (Str.ofString c) = some cls → W cls none σ H'
  | .st => False
def tT (K : PySem.W.Frag) (mg : Str → Option Value) (W : WX) (f : Tx) : TT := fun σ H Q => ∃ F env, Rel K F H σ env ∧ okT mg W F H σ Q (f env)
def TV (X : Cx) (W : WX) (e : Expr) (f : Tx) : Prop := PT X e (tT X.K X.mg W f)
def WV (X : Cx) (W : WX) (e : Expr) (f : Tx) : Prop := PW X e (tT X.K X.mg W f)
def oB : Out R → Out Bool
  | .ok r => match r.d with
    | .bl b => .ok b
    | _ => .st
  | .ex c => .ex c
  | .st => .st
def tB (f : Sx) : Tx := fun env => oB (f env)
variable {K : PySem.W.Frag} {mg : Str → Option Value}
theorem tB_of {f : Sx} {σ : Sg} {H : Hp} {Q : Bool → Hp → Prop} (h : tT K mg W (tB f) σ H Q) : tE K mg W f σ H fun x H1 => ∃ k, x = .bl k ∧ Q k H1 := by
  obtain ⟨F, env, rl, h⟩ := h
  refine ⟨F, env, rl, ?_⟩
  unfold tB oB at h
  cases e : f env with
  | ok r =>
    simp only [e] at h
    cases e2 : r.d <;> simp only [e2] at h <;> first | exact h.elim | skip
    intro F1 H1 v x q
    have q2 := q.dv
    rw [e2] at q2
    exact ⟨_, q2.bl, h F1 H1 x⟩
  | ex c => simp only [e] at h; exact h
  | st => simp only [e] at h; exact h
theorem tv_val {e : Expr} {f : Sx} (h : EV X W e f) (he : ∀ whole, isTrue e X.env whole = (do let v ← whole; standAt e.pos; holding [v] (truthy v)) := by intro _; rfl) : TV X W e (tB f) := (pt_val h he).imp fun _ _ _ z => tB_of z
theorem tv_cmp {op : CmpOp} {a b : Expr} {r : R2} {φ : D → D → Out R} {f g : Sx} (ho : OpR X (compareOp op) r) (o : Op2 X.K r φ) (n : ∀ a b, noEx (φ a b)) (ha : EV X W a f) (hb : EV X W b g) (hm : behindInMarks op b = false) : TV X W (.Compare a [op] [b] pos) (tB (e2 φ f g)) :=
  (pt_cmpR ho ha hb hm).imp fun σ H Q z => t2_of o n (tB_of z)
def tNotF (f : Tx) : Tx := fun env => match f env with
  | .ok b => .ok (!b)
  | .ex c => .ex c
  | .st => .st
def tAndF (f g : Tx) : Tx := fun env => match f env with
  | .ok b => if b then g env else .ok false
  | .ex c => .ex c
  | .st => .st
def tOrF (f g : Tx) : Tx := fun env => match f env with
  | .ok b => if b then .ok true else g env
  | .ex c => .ex c
  | .st => .st
theorem tv_not {a : Expr} {f : Tx} (h : TV X W a f) : TV X W (.UnaryOp .Not a pos) (tNotF f) := (pt_not h).imp fun σ H Q z => by
  obtain ⟨F, env, rl, z⟩ := z
  refine ⟨F, env, rl, ?_⟩
  unfold tNotF at z
  cases e : f env <;> rw [e] at z <;> exact z
theorem wv_and1 {a : Expr} {f : Tx} (h : TV X W a f) : WV X W (.BoolOp .And [a] pos) f := pw_and1 h
theorem wv_or1 {a : Expr} {f : Tx} (h : TV X W a f) : WV X W (.BoolOp .Or [a] pos) f := pw_or1 h
theorem wv_and {a b : Expr} {rest : List Expr} {f g : Tx} (ha : TV X W a f) (hb : WV X W (.BoolOp .And (b :: rest) pos) g) : WV X W (.BoolOp .And (a :: b :: rest) pos) (tAndF f g) := (pw_and ha hb).imp fun σ H Q z => by
  obtain ⟨F, env, rl, z⟩ := z
  refine ⟨F, env, rl, ?_⟩
  unfold tAndF at z
  cases e : f env with
  | ok b =>
    cases b with
    | true =>
      simp only [e, if_true] at z
      intro F1 H1 x
      show if (true = true) then _ else _
      rw [if_pos rfl]
      refine ⟨F1, env, rl.ext x, ?_⟩
      cases e2 : g env <;> rw [e2] at z
      · exact fun F2 H2 x2 => z F2 H2 (x.trans x2)
      · exact fun F2 H2 cls x2 m => z F2 H2 cls (x.trans x2) m
      · exact z
    | false =>
      simp only [e] at z
      intro F1 H1 x
      show if (false = true) then _ else _
      rw [if_neg Bool.false_ne_true]
      exact z F1 H1 x
  | ex c => simp only [e] at z; exact z
  | st => simp only [e] at z; exact z
theorem wv_or {a b : Expr} {rest : List Expr} {f g : Tx} (ha : TV X W a f) (hb : WV X W (.BoolOp .Or (b :: rest) pos) g) : WV X W (.BoolOp .Or (a :: b :: rest) pos) (tOrF f g) := (pw_or ha hb).imp fun σ H Q z => by
  obtain ⟨F, env, rl, z⟩ := z
  refine ⟨F, env, rl, ?_⟩
  unfold tOrF at z
  cases e : f env with
  | ok b =>
    cases b with
    | false =>
      simp only [e] at z
      intro F1 H1 x
      show if (false = true) then _ else _
      rw [if_neg Bool.false_ne_true]
      refine ⟨F1, env, rl.ext x, ?_⟩
      have z' : okT X.mg W F H σ Q (g env) := z
      cases e2 : g env <;> rw [e2] at z'
      · exact fun F2 H2 x2 => z' F2 H2 (x.trans x2)
      · exact fun F2 H2 cls x2 m => z' F2 H2 cls (x.trans x2) m
      · exact z'
    | true =>
      simp only [e] at z
      intro F1 H1 x
      show if (true = true) then _ else _
      rw [if_pos rfl]
      exact z F1 H1 x
  | ex c => simp only [e] at z; exact z
  | st => simp only [e] at z; exact z
theorem tv_w {e : Expr} {f : Tx} (h : WV X W e f) : TV X W e f := PW.pt h
/-- as values -/
def eT (f : Tx) : Sx := fun env => match f env with
  | .ok b => .ok (.cl (.bl b))
  | .ex c => .ex c
  | .st => .st
def eNot (f : Sx) : Sx := eT (tNotF (tB f))
def eAnd (f g : Sx) : Sx := fun env => match oB (f env) with
  | .ok b => if b then g env else .ok (.cl (.bl false))
  | .ex c => .ex c
  | .st => .st
def eOr (f g : Sx) : Sx := fun env => match oB (f env) with
  | .ok b => if b then .ok (.cl (.bl true)) else g env
  | .ex c => .ex c
  | .st => .st
theorem oB_ok {F F1 H0 H1 : Hp} {v : V} {r : R} {b : Bool} (q : RV K F1 H0 H1 v r) (e : oB (.ok r) = .ok b) : v = .bl b := by
  unfold oB at e
  cases e2 : r.d <;> simp only [e2] at e <;> first | (cases e; done) | skip
  have q2 := q.dv
  rw [e2] at q2
  cases e
  exact q2.bl
theorem oB_ex {o : Out R} {c : String} (e : oB o = .ex c) : o = .ex c := by
  cases o with
  | ok r => unfold oB at e; cases e2 : r.d <;> simp only [e2] at e <;> cases e
  | ex c => cases e; rfl
  | st => cases e
theorem okE_step {F F1 H H1 : Hp} {σ : Sg} {Q : VK} {o : Out R} (x : Ext F H F1 H1) (z : okE K mg W F H σ Q o) : okE K mg W F1 H1 σ Q o := by
  cases o with
  | ok r => exact fun F2 H2 v x2 q => z F2 H2 v (x.trans x2) (q.back x.hh)
  | ex c => exact fun F2 H2 cls x2 m => z F2 H2 cls (x.trans x2) m
  | st => exact z
theorem ev_not {a : Expr} {f : Sx} (h : EV X W a f) : EV X W (.UnaryOp .Not a pos) (eNot f) := (pe_not h).imp fun σ H Q z => by
  obtain ⟨F, env, rl, z⟩ := z
  refine ⟨F, env, rl, ?_⟩
  unfold eNot eT tNotF tB at z
  cases e : f env with
  | ok r =>
    cases e2 : oB (.ok r) with
    | ok b =>
      simp only [e, e2] at z
      intro F1 H1 v x q
      exact ⟨b, oB_ok (F := F) q e2, z F1 H1 _ x (.bl _)⟩
    | ex c => cases oB_ex e2
    | st => simp only [e, e2] at z; exact z.elim
  | ex c => simp only [e, oB] at z; exact z
  | st => simp only [e, oB] at z; exact z
theorem ev_one {op} {a : Expr} {f : Sx} (h : EV X W a f) : EV X W (.BoolOp op [a] pos) f := pe_one h
theorem ev_and {a b : Expr} {rest : List Expr} {f g : Sx} (ha : EV X W a f) (hb : EV X W (.BoolOp .And (b :: rest) pos) g) : EV X W (.BoolOp .And (a :: b :: rest) pos) (eAnd f g) := (pe_and ha hb).imp fun σ H Q z => by
  obtain ⟨F, env, rl, z⟩ := z
  refine ⟨F, env, rl, ?_⟩
  unfold eAnd at z
  cases e : f env with
  | ok r =>
    cases e2 : oB (.ok r) with
    | ok b =>
      simp only [e, e2] at z
      intro F1 H1 v x q
      refine ⟨b, oB_ok (F := F) q e2, ?_⟩
      cases b with
      | true => rw [if_pos rfl]; exact ⟨F1, env, rl.ext x, okE_step x z⟩
      | false => rw [if_neg Bool.false_ne_true]; exact z F1 H1 _ x (.bl _)
    | ex c => cases oB_ex e2
    | st => simp only [e, e2] at z; exact z.elim
  | ex c => simp only [e, oB] at z; exact z
  | st => simp only [e, oB] at z; exact z
theorem ev_or {a b : Expr} {rest : List Expr} {f g : Sx} (ha : EV X W a f) (hb : EV X W (.BoolOp .Or (b :: rest) pos) g) : EV X W (.BoolOp .Or (a :: b :: rest) pos) (eOr f g) := (pe_or ha hb).imp fun σ H Q z => by
  obtain ⟨F, env, rl, z⟩ := z
  refine ⟨F, env, rl, ?_⟩
  unfold eOr at z
  cases e : f env with
  | ok r =>
    cases e2 : oB (.ok r) with
    | ok b =>
      simp only [e, e2] at z
      intro F1 H1 v x q
      refine ⟨b, oB_ok (F := F) q e2, ?_⟩
      cases b with
      | true => rw [if_pos rfl]; exact z F1 H1 _ x (.bl _)
      | false => rw [if_neg Bool.false_ne_true]; exact ⟨F1, env, rl.ext x, okE_step x z⟩
    | ex c => cases oB_ex e2
    | st => simp only [e, e2] at z; exact z.elim
  | ex c => simp only [e, oB] at z; exact z
  | st => simp only [e, oB] at z; exact z
/-- a if t else b -/
def eIf (t : Tx) (f g : Sx) : Sx := fun env => match t env with
  | .ok b => if b then f env else g env
  | .ex c => .ex c
  | .st => .st
theorem ev_if {c a b : Expr} {t : Tx} {f g : Sx} (hc : TV X W c t) (ha : EV X W a f) (hb : EV X W b g) : EV X W (.IfExp c a b pos) (eIf t f g) := (pe_ifExp hc ha hb).imp fun σ H Q z => by
  obtain ⟨F, env, rl, z⟩ := z
  refine ⟨F, env, rl, ?_⟩
  unfold eIf at z
  cases e : t env with
  | ok b =>
    simp only [e] at z
    intro F1 H1 x
    cases b with
    | true => rw [if_pos rfl]; exact ⟨F1, env, rl.ext x, okE_step x z⟩
    | false => rw [if_neg Bool.false_ne_true]; exact ⟨F1, env, rl.ext x, okE_step x z⟩
  | ex c => simp only [e] at z; exact z
  | st => simp only [e] at z; exact z
/-- a < b < c -/
def eChain (φ ψ : D → D → Out R) (f g h : Sx) : Sx := fun env => match f env with
  | .ok a => (match g env with
    | .ok b => (match oB (φ a.d b.d) with
      | .ok k => if k then (match h env with
        | .ok c => ψ b.d c.d
        | .ex c => .ex c
        | .st => .st) else .ok (.cl (.bl false))
      | .ex c => .ex c
      | .st => .st)
    | .ex c => .ex c
    | .st => .st)
  | .ex c => .ex c
  | .st => .st
end
end Fs

set_option maxHeartbeats 4000000
namespace Fs
open PySem PySem.Spec PyProof.Rows L2
section
variable {X : Cx} {W : WX} {pos : Pos} {K : PySem.W.Frag} {mg : Str → Option Value}

/-! ### chains -/
theorem tChain_of {r r' : R2} {φ ψ : D → D → Out R} {f g h : Sx} (o : Op2 K r φ) (o' : Op2 K r' ψ) (n' : ∀ a b, noEx (ψ a b)) (n : ∀ a b, noEx (φ a b)) {σ : Sg} {H : Hp} {Q : VK} (z : tE K mg W (eChain φ ψ f g h) σ H Q) :
    tChain r r' (tE K mg W f) (tE K mg W g) (tE K mg W h) σ H Q := by
  obtain ⟨F, env, rl, z⟩ := z
  refine ⟨F, env, rl, ?_⟩
  unfold eChain at z
  cases e : f env with
  | ok ra =>
    simp only [e] at z
    intro F1 H1 x x1 q1
    refine ⟨F1, env, rl.ext x1, ?_⟩
    cases e2 : g env with
    | ok rb =>
      simp only [e2] at z
      intro F2 H2 y x2 q2
      refine o F2 H2 x y _ _ _ x2.fh (x2.dv q1.dv) q2.dv ?_
      cases e3 : φ ra.d rb.d with
      | ok rc =>
        simp only [e3] at z
        intro F3 H3 v x3 q3
        cases e4 : oB (.ok rc) with
        | ok k =>
          simp only [e4] at z
          refine ⟨k, oB_ok (F := F) q3 e4, ?_⟩
          have x13 := x1.trans (x2.trans x3)
          cases k with
          | true =>
            rw [if_pos rfl]
            refine ⟨F3, env, rl.ext x13, ?_⟩
            simp only [if_true] at z
            cases e5 : h env with
            | ok rd =>
              simp only [e5] at z
              intro F4 H4 u x4 q4
              exact o' F4 H4 y u _ _ Q x4.fh ((x3.trans x4).dv q2.dv) q4.dv (okE_okV (x13.trans x4) (n' _ _) z)
            | ex c => simp only [e5] at z; exact fun F4 H4 cls x4 m => z F4 H4 cls (x13.trans x4) m
            | st => simp only [e5] at z; exact z
          | false =>
            rw [if_neg Bool.false_ne_true]
            exact z F3 H3 _ x13 (.bl _)
        | ex c => cases oB_ex e4
        | st => simp only [e4] at z; exact z.elim
      | ex c =>
        have := n ra.d rb.d
        rw [e3] at this
        exact this.elim
      | st => simp only [e3, oB] at z; exact z.elim
    | ex c => simp only [e2] at z; exact fun F4 H4 cls x4 m => z F4 H4 cls (x1.trans x4) m
    | st => simp only [e2] at z; exact z
  | ex c => simp only [e] at z; exact z
  | st => simp only [e] at z; exact z
theorem ev_chain {op op' : CmpOp} {a b c : Expr} {r r' : R2} {φ ψ : D → D → Out R} {f g h : Sx} (ho : OpR X (compareOp op) r) (o : Op2 X.K r φ) (n : ∀ a b, noEx (φ a b)) (ho' : OpR X (compareOp op') r') (o' : Op2 X.K r' ψ) (n' : ∀ a b, noEx (ψ a b)) (ha : EV X W a f) (hb : EV X W b g) (hc : EV X W c h)
    (hm : lastMarks [op, op'] [b, c] = false := by with_unfolding_all rfl) : EV X W (.Compare a [op, op'] [b, c] pos) (eChain φ ψ f g h) := (pe_chain ho ho' ha hb hc hm).imp fun _ _ _ z => tChain_of o o' n' n z
theorem tv_chain {op op' : CmpOp} {a b c : Expr} {r r' : R2} {φ ψ : D → D → Out R} {f g h : Sx} (ho : OpR X (compareOp op) r) (o : Op2 X.K r φ) (n : ∀ a b, noEx (φ a b)) (ho' : OpR X (compareOp op') r') (o' : Op2 X.K r' ψ) (n' : ∀ a b, noEx (ψ a b)) (ha : EV X W a f) (hb : EV X W b g) (hc : EV X W c h)
    (hm : lastMarks [op, op'] [b, c] = false := by with_unfolding_all rfl) : TV X W (.Compare a [op, op'] [b, c] pos) (tB (eChain φ ψ f g h)) := (pt_chain ho ho' ha hb hc hm).imp fun _ _ _ z => tChain_of o o' n' n (tB_of z)

/-! ### statements -/
inductive SO where
  | nx (e : Env) | rt (r : R) | bk (e : Env) | ct (e : Env) | ex (c : String) (e : Env) | st
abbrev Stx := Env → SO
structure SRel (K : PySem.W.Frag) (F0 H0 F H : Hp) (σ : Sg) (env : Env) : Prop where
  rel : Rel K F H σ env
  ext : Ext F0 H0 F H
  own : ∀ (i : Nat) d l, env[i]? = some (.ow d) → σ[i]? = some (some (.ref l)) → H0 l = none
theorem SRel.step {F0 H0 F H F' H' : Hp} {σ : Sg} {env : Env} (s : SRel K F0 H0 F H σ env) (x : Ext F H F' H') : SRel K F0 H0 F' H' σ env := ⟨s.rel.ext x, s.ext.trans x, s.own⟩
def okS (K : PySem.W.Frag) (mg : Str → Option Value) (W : WX) (F0 H0 : Hp) (E : Ends) : SO → Prop
  | .nx e => ∀ F' H' σ', SRel K F0 H0 F' H' σ' e → E.nx σ' H'
  | .bk e => ∀ F' H' σ', SRel K F0 H0 F' H' σ' e → E.bk σ' H'
  | .ct e => ∀ F' H' σ', SRel K F0 H0 F' H' σ' e → E.ct σ' H'
  | .rt r => ∀ F' H' v, Ext F0 H0 F' H' → RV K F' H0 H' v r → E.rt v H'
  | .ex c e => ∀ F' H' σ' cls, SRel K F0 H0 F' H' σ' e → mg (Str.ofString c) = some cls → W cls none σ' H'
  | .st => False
def tS (K : PySem.W.Frag) (mg : Str → Option Value) (W : WX) (f : Stx) : TS := fun E σ H => ∃ F0 H0 F env, SRel K F0 H0 F H σ env ∧ okS K mg W F0 H0 E (f env)
def SV (X : Cx) (W : WX) (s : Stmt) (f : Stx) : Prop := PS X s (tS X.K X.mg W f)
def SVs (X : Cx) (W : WX) (s : List Stmt) (f : Stx) : Prop := PSs X s (tS X.K X.mg W f)
def sSeq (f g : Stx) : Stx := fun env => match f env with
  | .nx e => g e
  | o => o
def sSkip : Stx := fun env => .nx env
theorem svs_nil : SVs X W [] sSkip := pss_nil.imp fun E σ H z => by
  obtain ⟨F0, H0, F, env, r, z⟩ := z
  exact z F H σ r
theorem svs_one {s : Stmt} {f : Stx} (h : SV X W s f) : SVs X W [s] f := pss_one h
theorem svs_cons {s : Stmt} {ss : List Stmt} {f g : Stx} (h : SV X W s f) (h2 : SVs X W ss g) : SVs X W (s :: ss) (sSeq f g) := (pss_cons h h2).imp fun E σ H z => by
  obtain ⟨F0, H0, F, env, r, z⟩ := z
  refine ⟨F0, H0, F, env, r, ?_⟩
  unfold sSeq at z
  cases e : f env <;> rw [e] at z
  · exact fun F' H' σ' r' => ⟨F0, H0, F', _, r', z⟩
  all_goals exact z
/-- an own slot is given away -/
def sFreeze (i : Nat) : Stx := fun env => match env[i]? with
  | some (.ow d) => .nx (env.set i (.sh d))
  | _ => .nx env
theorem Rel.froz {F0 H0 F H : Hp} {σ : Sg} {env : Env} {i : Nat} {d : D} (s : SRel K F0 H0 F H σ env) (e : env[i]? = some (.ow d)) : ∃ F', SRel K F0 H0 F' H σ (env.set i (.sh d)) := by
  obtain ⟨l, sl, f, o⟩ := s.rel.ow i d e
  have n0 := s.own i d l e sl
  have hi : i < env.length := (List.getElem?_eq_some_iff.mp e).1
  obtain ⟨u, hu, dr⟩ : ∃ u, H l = some u ∧ DR K (upd F l u) (.ref l) d := by
    cases d <;> first | exact (False.elim o) | skip
    · obtain ⟨xs, h, r⟩ := o
      exact ⟨_, h, .lst upd_same (r.mono fun b u q => by rw [upd_ne (ne_of_none q f)]; exact q)⟩
    · obtain ⟨xs, h, r⟩ := o
      exact ⟨_, h, .dct upd_same (r.mono fun b u q => by rw [upd_ne (ne_of_none q f)]; exact q)⟩
    · obtain ⟨us, h, r⟩ := o
      obtain ⟨φ, g⟩ := h.at_
      have sm : Same F (upd F l (.ext φ)) := fun b u q => by rw [upd_ne (ne_of_none q f)]; exact q
      exact ⟨_, g, .dtk (h.mono sm (by rw [upd_same]; exact g)) (r.mono sm)⟩
  have sm : Same F (upd F l u) := fun b u q => by rw [upd_ne (ne_of_none q f)]; exact q
  have e2 := Ext.frz s.rel.sub f hu n0 s.ext.hh F0 s.ext
  refine ⟨upd F l u, ⟨e2.fh, by rw [List.length_set]; exact s.rel.len, fun j d' q => ?_, fun j d' q => ?_, fun j k d1 d2 l' q1 q2 q3 q4 => ?_, fun j c q => by
    by_cases hj : i = j
    · subst hj; rw [List.getElem?_set_self hi] at q; cases q
    · rw [List.getElem?_set_ne hj] at q; exact s.rel.ex j c q⟩, e2, fun j d' l' q1 q2 => ?_⟩
  · by_cases hj : i = j
    · subst hj
      rw [List.getElem?_set_self hi] at q
      cases q
      exact ⟨.ref l, sl, dr⟩
    · rw [List.getElem?_set_ne hj] at q
      obtain ⟨v, a, b⟩ := s.rel.sh j d' q
      exact ⟨v, a, b.mono sm⟩
  · by_cases hj : i = j
    · subst hj
      rw [List.getElem?_set_self hi] at q
      cases q
    · rw [List.getElem?_set_ne hj] at q
      obtain ⟨l', a, f', o'⟩ := s.rel.ow j d' q
      have hl : l' ≠ l := fun z => hj (s.rel.sep i j d d' l e q sl (by rw [← z]; exact a))
      refine ⟨l', a, by rw [upd_ne hl]; exact f', ?_⟩
      cases d' <;> first | exact (False.elim o') | skip
      · obtain ⟨xs, h, r⟩ := o'
        exact ⟨xs, h, r.mono sm⟩
      · obtain ⟨xs, h, r⟩ := o'
        exact ⟨xs, h, r.mono sm⟩
      · obtain ⟨us, h, r⟩ := o'
        exact ⟨us, h.mono sm rfl, r.mono sm⟩
  · have hj : i ≠ j := fun z => by subst z; rw [List.getElem?_set_self hi] at q1; cases q1
    have hk : i ≠ k := fun z => by subst z; rw [List.getElem?_set_self hi] at q2; cases q2
    rw [List.getElem?_set_ne hj] at q1
    rw [List.getElem?_set_ne hk] at q2
    exact s.rel.sep j k d1 d2 l' q1 q2 q3 q4
  · have hj : i ≠ j := fun z => by subst z; rw [List.getElem?_set_self hi] at q1; cases q1
    rw [List.getElem?_set_ne hj] at q1
    exact s.own j d' l' q1 q2
theorem svs_freeze {ss : List Stmt} {f : Stx} (i : Nat) (h : SVs X W ss f) : SVs X W ss (sSeq (sFreeze i) f) := h.imp fun E σ H z => by
  obtain ⟨F0, H0, F, env, r, z⟩ := z
  unfold sSeq sFreeze at z
  cases e : env[i]? with
  | none => simp only [e] at z; exact ⟨F0, H0, F, env, r, z⟩
  | some s =>
    cases s with
    | ow d =>
      simp only [e] at z
      obtain ⟨F', r'⟩ := Rel.froz r e
      exact ⟨F0, H0, F', _, r', z⟩
    | sh d => simp only [e] at z; exact ⟨F0, H0, F, env, r, z⟩
    | un => simp only [e] at z; exact ⟨F0, H0, F, env, r, z⟩
    | exc _ => simp only [e] at z; exact ⟨F0, H0, F, env, r, z⟩

theorem sv_pass : SV X W (.Pass pos) sSkip := ps_pass.imp fun E σ H z => by
  obtain ⟨F0, H0, F, env, r, z⟩ := z
  exact z F H σ r
def sBreak : Stx := fun env => .bk env
def sCont : Stx := fun env => .ct env
theorem sv_break : SV X W (.Break pos) sBreak := ps_break.imp fun E σ H z => by
  obtain ⟨F0, H0, F, env, r, z⟩ := z
  exact z F H σ r
theorem sv_continue : SV X W (.Continue pos) sCont := ps_continue.imp fun E σ H z => by
  obtain ⟨F0, H0, F, env, r, z⟩ := z
  exact z F H σ r
theorem sv_doc {x j pos'} : SV X W (.Expr (.Constant (.str x) j pos) pos') sSkip := ps_doc.imp fun E σ H z => by
  obtain ⟨F0, H0, F, env, r, z⟩ := z
  exact z F H σ r
/-- an expression dropped, returned, stored -/
def sRun (k : R → Env → SO) (f : Sx) : Stx := fun env => match f env with
  | .ok r => k r env
  | .ex c => .ex c env
  | .st => .st
def sDrop : Sx → Stx := sRun fun _ env => .nx env
def sRet : Sx → Stx := sRun fun r _ => match r with
  | .bo _ => .st
  | r => .rt r
def slotOf : R → Option Slot
  | .cl d => some (.sh d)
  | .ow d => some (.ow d)
  | .bo _ => none
def sSet (i : Nat) : Sx → Stx := sRun fun r env => match slotOf r with
  | some s => .nx (env.set i s)
  | none => .st
theorem tS_run {k : R → Env → SO} {f : Sx} {E : Ends} {σ : Sg} {H : Hp} {Q : VK} (z : tS K mg W (sRun k f) E σ H)
    (go : ∀ F0 H0 F env, SRel K F0 H0 F H σ env → ∀ r, okS K mg W F0 H0 E (k r env) → ∀ F1 H1 v, Ext F H F1 H1 → RV K F1 H H1 v r → Q v H1) : tE K mg W f σ H Q := by
  obtain ⟨F0, H0, F, env, rl, z⟩ := z
  refine ⟨F, env, rl.rel, ?_⟩
  unfold sRun at z
  cases e : f env with
  | ok r => simp only [e] at z; exact fun F1 H1 v x q => go F0 H0 F env rl r z F1 H1 v x q
  | ex c => simp only [e] at z; exact fun F1 H1 cls x m => z F1 H1 σ cls (rl.step x) m
  | st => simp only [e] at z; exact z
theorem sv_expr {e : Expr} {f : Sx} (he : EV X W e f) (hs : swapsWith e none pos.line X.env = pure false := by rfl) : SV X W (.Expr e pos) (sDrop f) := (ps_expr he hs).imp fun E σ H z =>
  tS_run z fun F0 H0 F env rl r z F1 H1 v x q => z F1 H1 σ (rl.step x)
theorem sv_ret {e : Expr} {f : Sx} (he : EV X W e f) : SV X W (.Return (some e) pos) (sRet f) := (ps_ret he).imp fun E σ H z =>
  tS_run z fun F0 H0 F env rl r z F1 H1 v x q => by
    cases r with
    | cl d => exact z F1 H1 v (rl.ext.trans x) q
    | ow d => exact z F1 H1 v (rl.ext.trans x) (RV.back (r := .ow d) rl.ext.hh q)
    | bo d => exact z.elim
def sRetV (i : Nat) : Stx := fun env => match env[i]? with
  | some (.sh d) => .rt (.cl d)
  | some (.ow d) => .rt (.ow d)
  | _ => .st
/-- return of a name: an own object is handed over -/
theorem sv_retV (i : Nat) {x : Str} {p : Pos} (hN : X.N[i]? = some x := by rfl) (hv : Vis X.env.scope x := by first | exact Or.inl rfl | exact Or.inr (Or.inl rfl) | exact Or.inr (Or.inr rfl)) (hd : (x == ("__debug__" : Str)) = false := by decide)
    (hcd : (x == ("__classdict__" : Str)) = false := by decide) : SV X W (.Return (some (.Name x p)) pos) (sRetV i) := (ps_ret (pe_var hN hv hd hcd)).imp fun E σ H z => by
  obtain ⟨F0, H0, F, env, rl, z⟩ := z
  unfold sRetV at z
  cases e : env[i]? with
  | none => simp only [e] at z; exact z.elim
  | some s =>
    cases s with
    | un => simp only [e] at z; exact z.elim
    | exc _ => simp only [e] at z; exact z.elim
    | sh d =>
      simp only [e] at z
      obtain ⟨v, a, b⟩ := rl.rel.sh i d e
      exact ⟨v, a, z F H v rl.ext b⟩
    | ow d =>
      simp only [e] at z
      obtain ⟨l, a, b⟩ := rl.rel.ow i d e
      exact ⟨_, a, z F H _ rl.ext ⟨l, rfl, rl.own i d l e a, b⟩⟩
theorem sv_retN : SV X W (.Return none pos) (fun _ => .rt (.cl .non)) := ps_retN.imp fun E σ H z => by
  obtain ⟨F0, H0, F, env, rl, z⟩ := z
  exact z F H .non rl.ext .non
/-- a slot is stored -/
theorem SRel.put {F0 H0 F H F1 H1 : Hp} {σ : Sg} {env : Env} {v : V} {r : R} {s : Slot} (rl : SRel K F0 H0 F H σ env) (x : Ext F H F1 H1) (q : RV K F1 H H1 v r) (e : slotOf r = some s) (i : Nat) : SRel K F0 H0 F1 H1 (σ.set i (some v)) (env.set i s) := by
  have rl1 := rl.step x
  have len := rl.rel.len
  have other : ∀ {j : Nat} {t : Slot}, i ≠ j → (env.set i s)[j]? = some t → env[j]? = some t ∧ ∀ w, σ[j]? = w → (σ.set i (some v))[j]? = w := fun {j t} hj q => by
    rw [List.getElem?_set_ne hj] at q
    exact ⟨q, fun w e => by rw [List.getElem?_set_ne hj]; exact e⟩
  have here : ∀ {t : Slot}, (env.set i s)[i]? = some t → t = s ∧ (σ.set i (some v))[i]? = some (some v) := fun {t} q => by
    have hi : i < env.length := by
      have := (List.getElem?_eq_some_iff.mp q).1
      rw [List.length_set] at this
      exact this
    rw [List.getElem?_set_self hi] at q
    exact ⟨(Option.some.inj q).symm, List.getElem?_set_self (by rw [len]; exact hi)⟩
  -- an own one that was there ahead has another address
  have apart : ∀ {l : Addr} {j : Nat} {d : D}, H l = none → env[j]? = some (.ow d) → σ[j]? = some (some (.ref l)) → False := fun {l j d} n a b => by
    obtain ⟨l', b', f, o⟩ := rl.rel.ow j d a
    rw [b] at b'
    cases b'
    cases d <;> first | exact (False.elim o) | (obtain ⟨_, h, _⟩ := o; rw [n] at h; cases h) | (obtain ⟨_, h, _⟩ := o; obtain ⟨_, h⟩ := h.at_; rw [n] at h; cases h)
  have shut : ∀ {j : Nat} {w : Option (Option V)}, i ≠ j → (σ.set i (some v))[j]? = w → σ[j]? = w := fun {j w} hj q => by rw [List.getElem?_set_ne hj] at q; exact q
  refine ⟨⟨rl1.rel.sub, by rw [List.length_set, List.length_set]; exact len, fun j d a => ?_, fun j d a => ?_, fun j k d d' l a b c g => ?_, fun j c q => by
    by_cases hj : i = j
    · subst hj; obtain ⟨h1, _⟩ := here q; cases r <;> cases e <;> cases h1
    · exact (other hj q).2 _ (rl1.rel.ex j c (other hj q).1)⟩, rl1.ext, fun j d l a b => ?_⟩
  · by_cases hj : i = j
    · subst hj
      obtain ⟨h1, h2⟩ := here a
      cases r <;> cases e <;> cases h1
      exact ⟨v, h2, q⟩
    · obtain ⟨h1, h2⟩ := other hj a
      obtain ⟨w, y, z⟩ := rl1.rel.sh j d h1
      exact ⟨w, h2 _ y, z⟩
  · by_cases hj : i = j
    · subst hj
      obtain ⟨h1, h2⟩ := here a
      cases r <;> cases e <;> cases h1
      obtain ⟨l, rfl, n, o⟩ := q
      exact ⟨l, h2, o⟩
    · obtain ⟨h1, h2⟩ := other hj a
      obtain ⟨w, y, z⟩ := rl1.rel.ow j d h1
      exact ⟨w, h2 _ y, z⟩
  · by_cases hj : i = j
    · by_cases hk : i = k
      · exact hj.symm.trans hk
      · subst hj
        obtain ⟨h1, h2⟩ := here a
        cases r <;> cases e <;> cases h1
        obtain ⟨l', rfl, n, o⟩ := q
        rw [h2] at c
        cases c
        exact (apart n (other hk b).1 (shut hk g)).elim
    · by_cases hk : i = k
      · subst hk
        obtain ⟨h1, h2⟩ := here b
        cases r <;> cases e <;> cases h1
        obtain ⟨l', rfl, n, o⟩ := q
        rw [h2] at g
        cases g
        exact (apart n (other hj a).1 (shut hj c)).elim
      · exact rl.rel.sep j k d d' l (other hj a).1 (other hk b).1 (shut hj c) (shut hk g)
  · by_cases hj : i = j
    · subst hj
      obtain ⟨h1, h2⟩ := here a
      cases r <;> cases e <;> cases h1
      obtain ⟨l', rfl, n, o⟩ := q
      rw [h2] at b
      cases b
      exact rl.ext.hh.free n
    · exact rl.own j d l (other hj a).1 (shut hj b)
theorem sv_set {i : Nat} {x : Str} {e : Expr} {f : Sx} {pos' : Pos} (hN : X.N.Nodup) (hi : X.N[i]? = some x) (hx : Loc X.env.scope x) (he : EV X W e f) (hs : swapsWith e (some (.Name x pos')) pos.line X.env = pure false := by rfl) (hf : X.fn x = true ∨ X.env.scope.names.lookup x = some .local := by first | exact .inl rfl | exact .inr rfl | assumption) :
    SV X W (.Assign [.Name x pos'] e pos) (sSet i f) := (ps_set hN hi hx he hs hf).imp fun E σ H z =>
  tS_run (Q := fun v H1 => gName i v σ H1 E.nx) z fun F0 H0 F env rl r z F1 H1 v x q => by
    cases e : slotOf r with
    | none => simp only [e] at z; exact z.elim
    | some s =>
      simp only [e] at z
      exact z F1 H1 _ (rl.put x q e i)
/-- if -/
def sIf (t : Tx) (f g : Stx) : Stx := fun env => match t env with
  | .ok b => if b then f env else g env
  | .ex c => .ex c env
  | .st => .st
theorem sv_if {c : Expr} {a b : List Stmt} {t : Tx} {f g : Stx} (hc : TV X W c t) (ha : SVs X W a f) (hb : SVs X W b g) : SV X W (.If c a b pos) (sIf t f g) := (ps_if hc ha hb).imp fun E σ H z => by
  obtain ⟨F0, H0, F, env, rl, z⟩ := z
  refine ⟨F, env, rl.rel, ?_⟩
  unfold sIf at z
  cases e : t env with
  | ok b =>
    simp only [e] at z
    intro F1 H1 x
    cases b with
    | true => rw [if_pos rfl]; exact ⟨F0, H0, F1, env, rl.step x, z⟩
    | false => rw [if_neg Bool.false_ne_true]; exact ⟨F0, H0, F1, env, rl.step x, z⟩
  | ex c => simp only [e] at z; exact fun F1 H1 cls x m => z F1 H1 σ cls (rl.step x) m
  | st => simp only [e] at z; exact z
/-- a, b = x, y of two local names -/
def sPar (i j : Nat) (fs : List Sx) : Stx := fun env => match evArgs fs env with
  | .ok [a, b] => .nx ((env.set i (.sh a)).set j (.sh b))
  | .ok _ => .st
  | .ex c => .ex c env
  | .st => .st
theorem sv_par {i j : Nat} {x y : Str} {a b : Expr} {fs : List Sx} {px py pt : Pos} {kt k2 pt2} (hc : X.calm = true) (hN : X.N.Nodup) (hi : X.N[i]? = some x) (hj : X.N[j]? = some y) (hij : i ≠ j)
    (hx : X.env.scope.names.lookup x = some .local) (hy : X.env.scope.names.lookup y = some .local) (ha : AV X W [a, b] fs)
    (hw : swappedStores [.Tuple [.Name x px, .Name y py] kt pt] (.Tuple [a, b] k2 pt2) X.env = pure (some [x, y]))
    (hs : swapsWithSole [.Tuple [.Name x px, .Name y py] kt pt] (.Tuple [a, b] k2 pt2) pos.line X.env = pure false := by rfl) :
    SV X W (.Assign [.Tuple [.Name x px, .Name y py] kt pt] (.Tuple [a, b] k2 pt2) pos) (sPar i j fs) := (ps_par hc hN hi hj hij hx hy ha hw hs).imp fun E σ H z => by
  obtain ⟨F0, H0, F, env, rl, z⟩ := z
  refine ⟨F, env, rl.rel, ?_⟩
  unfold sPar at z
  cases e : evArgs fs env with
  | ok ds =>
    simp only [e] at z
    match ds, z with
    | [a, b], z =>
      intro F1 H1 vs x rs
      cases rs with
      | cons r1 rs =>
        cases rs with
        | cons r2 rs =>
          cases rs
          refine ⟨_, _, rfl, z F1 H1 _ ((rl.put x (r := .cl _) r1 rfl i).put (r := .cl _) (.refl x.fh) r2 rfl j)⟩
    | [], z => exact z.elim
    | [_], z => exact z.elim
    | _ :: _ :: _ :: _, z => exact z.elim
  | ex c => simp only [e] at z; exact fun F1 H1 cls x m => z F1 H1 σ cls (rl.step x) m
  | st => simp only [e] at z; exact z

/-! ### while -/
def whileF (t : Tx) (b : Stx) : Nat → Stx
  | 0, _ => .st
  | n + 1, env => match t env with
    | .ok true => (match b env with
      | .nx e => whileF t b n e
      | .ct e => whileF t b n e
      | .bk e => .nx e
      | o => o)
    | .ok false => .nx env
    | .ex c => .ex c env
    | .st => .st
def sWhile (fuel : Env → Nat) (t : Tx) (b : Stx) : Stx := fun env => whileF t b (fuel env) env
theorem sv_while (fuel : Env → Nat) {c : Expr} {body : List Stmt} {t : Tx} {b : Stx} (hp : PassesOwn (model X.prog X.w) X.A X.env X.xe) (hc : TV X W c t) (hb : SVs X W body b) : SV X W (.While c body [] pos) (sWhile fuel t b) := (ps_while hp hc hb).imp fun E σ H z => by
  obtain ⟨F0, H0, F, env, rl, z⟩ := z
  refine ⟨fun m σ H => ∃ F env, SRel X.K F0 H0 F H σ env ∧ okS X.K X.mg W F0 H0 E (whileF t b m env), ⟨fuel env, F, env, rl, z⟩, ?_⟩
  rintro m σ H ⟨F, env, rl, z⟩
  refine ⟨F, env, rl.rel, ?_⟩
  cases m with
  | zero => exact z.elim
  | succ m =>
    unfold whileF at z
    cases e : t env with
    | ok k =>
      simp only [e] at z
      intro F1 H1 x
      cases k with
      | false => rw [if_neg Bool.false_ne_true]; exact z F1 H1 σ (rl.step x)
      | true =>
        rw [if_pos rfl]
        refine ⟨fun σ' H' => ∃ F env, SRel X.K F0 H0 F H' σ' env ∧ okS X.K X.mg W F0 H0 E (whileF t b m env), fun σ' H' h => ⟨m, Nat.lt_succ_self m, h⟩, ?_⟩
        refine ⟨F0, H0, F1, env, rl.step x, ?_⟩
        simp only [] at z
        cases e2 : b env <;> simp only [e2] at z
        · exact fun F2 H2 σ2 r2 => ⟨F2, _, r2, z⟩
        · exact z
        · exact z
        · exact fun F2 H2 σ2 r2 => ⟨F2, _, r2, z⟩
        · exact z
        · exact z
    | ex c => simp only [e] at z; exact fun F1 H1 cls x m => z F1 H1 σ cls (rl.step x) m
    | st => simp only [e] at z; exact z
end
end Fs

set_option maxHeartbeats 4000000
namespace Fs
open PySem PySem.Spec PyProof.Rows L2

/-! ### what is walked -/
structure ItD (K : PySem.W.Frag) (J : It) (G F : Hp) (ds : List D) : Prop where
  len : ds.length ≤ 16777216
  go : ∀ i H, Same G H → i < ds.length → J.go i H
  yld : ∀ i F1 H x H', Same G H → Same F F1 → Same F1 H → J.yld i H x H' → ∀ d, ds[i]? = some d → ∃ F2, Ext F1 H F2 H' ∧ DR K F2 x d
  stop : ∀ i H, Same G H → ds.length ≤ i → J.stop i H
abbrev Ix := Env → Out (Bool × List D)
def okI (K : PySem.W.Frag) (mg : Str → Option Value) (W : WX) (F H : Hp) (σ : Sg) (R : It → Hp → Prop) : Out (Bool × List D) → Prop
  | .ok (b, ds) => ∀ F' H' G J, Ext F H F' H' → Same G H' → (b = true → G = F') → ItD K J G F' ds → R J H'
  | .ex c => ∀ F' H' cls, Ext F H F' H' → mg (Str.ofString c) = some cls → W cls none σ H'
  | .st => False
def tI (K : PySem.W.Frag) (mg : Str → Option Value) (W : WX) (f : Ix) : TI := fun σ H R => ∃ F env, Rel K F H σ env ∧ okI K mg W F H σ R (f env)
def IV (X : Cx) (W : WX) (tg e : Expr) (f : Ix) : Prop := PI X tg e (tI X.K X.mg W f)
section
variable {X : Cx} {W : WX} {pos : Pos} {K : PySem.W.Frag} {mg : Str → Option Value} {tg : Expr}
/-- a list, a tuple, the script, a text -/
def strItems (z : Str) : List D := z.cps.toList.map fun c => .str ⟨#[c]⟩
def itemsOf : D → Option (List D)
  | .lst ds => some ds
  | .tup ds => some ds
  | .scr ns => some (ns.map D.int)
  | .str z => if z.cps.size ≤ 16777216 then some (strItems z) else none
  | _ => none
def R.kept : R → Bool
  | .bo _ => false
  | _ => true
def iSeq (f : Sx) : Ix := fun env => match f env with
  | .ok r => (match itemsOf r.d with
    | some ds => .ok (r.kept, ds)
    | none => .st)
  | .ex c => .ex c
  | .st => .st
def iSeqT (K : PySem.W.Frag) (tl : TE) : TI := fun σ H R => tl σ H fun x H1 => (∃ a xs, x = .ref a ∧ SqL K H1 a xs ∧ (xs.length ≤ sizeLine → R (Itl K a) H1)) ∨ (∃ a xs, x = .ref a ∧ SqT K H1 a xs ∧ (xs.length ≤ sizeLine → R (Itt K a) H1)) ∨ (∃ z, x = .str z ∧ R (Its z) H1)
theorem pi_seq {l : Expr} {tl : TE} (hl : PE X l tl) : PI X tg l (iSeqT X.K tl) := by
  refine ⟨fun pins s σ H R I h => ?_⟩
  refine thn (hl.run pins s σ H _ I h) fun v s1 ⟨x, H1, I1, r1, q1⟩ => ?_
  rcases q1 with ⟨a, xs, e, hq, q⟩ | ⟨a, xs, e, hq, q⟩ | ⟨z, e, q⟩
  · subst e
    cases r1
    obtain ⟨its, rv, p, hz⟩ := I1.list hq
    refine wpAny_pyIter_list p.isList ?_
    refine ⟨s1.heap.objs.size, [s1.heap.objs.size], _, _, H1, rfl, I1.kept (t' := s1.toks) fun b o e => Heap.get?_push_of_some _ e, turn_list a _, ⟨_, Heap.get?_push_size _ rfl, rfl, rfl⟩, fun b hb => ?_, q hz⟩
    have e : b = s1.heap.objs.size := by simpa using hb
    subst e
    exact I1.fpOk (Nat.le_refl _) (I1.hok.fresh (Nat.le_refl _))
  · subst e
    cases r1
    obtain ⟨its, rv, p, hz⟩ := I1.tuple hq
    refine wpAny_pyIter_tuple (show s1.heap.IsTuple a its.toArray from p) ?_
    refine ⟨s1.heap.objs.size, [s1.heap.objs.size], _, _, H1, rfl, I1.kept (t' := s1.toks) fun b o e => Heap.get?_push_of_some _ e, turn_tuple a _, ⟨_, Heap.get?_push_size _ rfl, rfl, rfl⟩, fun b hb => ?_, q hz⟩
    have e : b = s1.heap.objs.size := by simpa using hb
    subst e
    exact I1.fpOk (Nat.le_refl _) (I1.hok.fresh (Nat.le_refl _))
  · subst e
    obtain ⟨t, rfl⟩ := r1
    cases ha : z.cps.all (· < 128)
    · exact wpAny_pyIter_wide ha (pi_one (tk := s1.toks) I1 _ (turn_str _ z t "str_iterator" (.inr rfl)) ⟨_, Heap.get?_push_size _ rfl, rfl, rfl⟩ q)
    · exact wpAny_pyIter_ascii ha (pi_one (tk := s1.toks) I1 _ (turn_str _ z t "str_ascii_iterator" (.inl rfl)) ⟨_, Heap.get?_push_size _ rfl, rfl, rfl⟩ q)
theorem itd_list {F H : Hp} {G : Hp} {a : Addr} {xs : List V} {ds : List D} (h : SqL K G a xs) (r : DRs K F xs ds) (hz : xs.length ≤ sizeLine) : ItD K (Itl K a) G F ds where
  len := by rw [← r.len, ← sizeLine_eq]; exact hz
  go := fun i H s hi => by
    obtain ⟨x, h1, _⟩ := r.get (List.getElem?_eq_getElem hi)
    exact ⟨xs, x, s.seq h, h1⟩
  yld := fun i F1 H x H' s sf fh y d hd => by
    obtain ⟨e, y⟩ := y
    subst e
    obtain ⟨x', h1, h2⟩ := r.get hd
    have h3 := y xs (s.seq h)
    rw [h1] at h3
    cases h3
    exact ⟨F1, .refl fh, h2.mono sf⟩
  stop := fun i H s hi => ⟨xs, s.seq h, by rw [r.len]; exact hi⟩
theorem itd_tup {F H : Hp} {G : Hp} {a : Addr} {xs : List V} {ds : List D} (h : SqT K G a xs) (r : DRs K F xs ds) (hz : xs.length ≤ sizeLine) : ItD K (Itt K a) G F ds where
  len := by rw [← r.len, ← sizeLine_eq]; exact hz
  go := fun i H s hi => by
    obtain ⟨x, h1, _⟩ := r.get (List.getElem?_eq_getElem hi)
    exact ⟨xs, x, sameT s h, h1⟩
  yld := fun i F1 H x H' s sf fh y d hd => by
    obtain ⟨e, y⟩ := y
    subst e
    obtain ⟨x', h1, h2⟩ := r.get hd
    have h3 := y xs (sameT s h)
    rw [h1] at h3
    cases h3
    exact ⟨F1, .refl fh, h2.mono sf⟩
  stop := fun i H s hi => ⟨xs, sameT s h, by rw [r.len]; exact hi⟩
theorem itd_str {F G : Hp} (z : Str) (hz : z.cps.size ≤ 16777216) : ItD K (Its z) G F (strItems z) where
  len := by unfold strItems; rw [List.length_map, Array.length_toList]; exact hz
  go := fun i H s hi => by
    unfold strItems at hi
    rw [List.length_map, Array.length_toList] at hi
    exact hi
  yld := fun i F1 H x H' s sf fh y d hd => by
    obtain ⟨e, c, hc, y⟩ := y
    subst e
    subst y
    unfold strItems at hd
    rw [List.getElem?_map, Array.getElem?_toList, hc] at hd
    cases hd
    exact ⟨F1, .refl fh, .str _⟩
  stop := fun i H s hi => by
    unfold strItems at hi
    rw [List.length_map, Array.length_toList] at hi
    exact hi
/-- a value that is walked: its list, the heap that must stand -/
theorem walkV {F0 H0 F H : Hp} {v : V} {r : R} {ds : List D} {R' : It → Hp → Prop} (x : Ext F0 H0 F H) (q : RV K F H0 H v r) (e : itemsOf r.d = some ds)
    (z : ∀ F' H' G J, Ext F0 H0 F' H' → Same G H' → (r.kept = true → G = F') → ItD K J G F' ds → R' J H') :
    (∃ a xs, v = .ref a ∧ SqL K H a xs ∧ (xs.length ≤ sizeLine → R' (Itl K a) H)) ∨ (∃ a xs, v = .ref a ∧ SqT K H a xs ∧ (xs.length ≤ sizeLine → R' (Itt K a) H)) ∨ (∃ z, v = .str z ∧ R' (Its z) H) := by
  cases r with
  | cl d =>
    cases q <;> simp only [R.d, itemsOf, Option.some.injEq] at e <;> first | (cases e; done) | skip
    · split at e
      · rename_i c
        cases e
        exact .inr (.inr ⟨_, rfl, z F H F _ x x.fh (fun _ => rfl) (itd_str _ c)⟩)
      · cases e
    · rename_i h r
      subst e; exact .inr (.inl ⟨_, _, rfl, sameT x.fh h.t, fun hz => z F H F _ x x.fh (fun _ => rfl) (itd_tup (H := H) h.t r hz)⟩)
    · rename_i h r
      subst e; exact .inl ⟨_, _, rfl, .of (x.fh _ _ h), fun hz => z F H F _ x x.fh (fun _ => rfl) (itd_list (H := H) (.of h) r hz)⟩
    · rename_i h
      subst e; exact .inl ⟨_, _, rfl, x.fh.seq h, fun hz => z F H F _ x x.fh (fun _ => rfl) (itd_list (H := H) h (.of_ints _) hz)⟩
  | ow d =>
    have q0 := q
    obtain ⟨l, rfl, n, f, o⟩ := q
    cases d <;> first | exact (False.elim o) | skip
    · obtain ⟨F2, x2, sm, dr⟩ := freeze x q0 trivial
      simp only [R.d, itemsOf, Option.some.injEq] at e
      subst e
      cases dr with
      | lst h r => exact .inl ⟨_, _, rfl, .of (x2.fh _ _ h), fun hz => z F2 H F2 _ x2 x2.fh (fun _ => rfl) (itd_list (H := H) (.of h) r hz)⟩
    all_goals (simp only [R.d, itemsOf] at e; cases e)
  | bo d =>
    obtain ⟨l, rfl, f, o⟩ := q
    cases d <;> first | exact (False.elim o) | skip
    · obtain ⟨xs, h, r⟩ := o
      simp only [R.d, itemsOf, Option.some.injEq] at e
      subst e
      exact .inl ⟨_, _, rfl, .of h, fun hz => z F H H _ x (.refl _) (fun z => by cases z) (itd_list (H := H) (.of h) r hz)⟩
    all_goals (simp only [R.d, itemsOf] at e; cases e)
theorem iv_seq {l : Expr} {f : Sx} (hl : EV X W l f) : IV X W tg l (iSeq f) := (pi_seq hl).imp fun σ H R z => by
  obtain ⟨F, env, rl, z⟩ := z
  refine ⟨F, env, rl, ?_⟩
  unfold iSeq at z
  cases e : f env with
  | ok r =>
    simp only [e] at z
    cases e2 : itemsOf r.d with
    | none => simp only [e2] at z; exact z.elim
    | some ds =>
      simp only [e2] at z
      intro F1 H1 v x q
      exact walkV x q e2 z
  | ex c => simp only [e] at z; exact z
  | st => simp only [e] at z; exact z
/-- range(n), range(a, b) -/
def rangeD (lo : Int) (n : Nat) : List D := (List.range n).map fun i : Nat => .int (lo + (i : Int))
theorem itd_range {F G : Hp} (lo : Int) (n : Nat) (hn : n ≤ 16777216) : ItD K (Itr lo n) G F (rangeD lo n) where
  len := by unfold rangeD; rw [List.length_map, List.length_range]; exact hn
  go := fun i H s hi => by
    unfold rangeD at hi
    rw [List.length_map, List.length_range] at hi
    exact hi
  yld := fun i F1 H x H' s sf fh y d hd => by
    obtain ⟨e, y⟩ := y
    subst e
    subst y
    unfold rangeD at hd
    rw [List.getElem?_map] at hd
    cases e1 : (List.range n)[i]? with
    | none => rw [e1] at hd; cases hd
    | some j =>
      rw [e1] at hd
      cases hd
      obtain ⟨h1, h2⟩ := List.getElem?_eq_some_iff.mp e1
      rw [List.getElem_range] at h2
      subst h2
      exact ⟨F1, .refl fh, .int _⟩
  stop := fun i H s hi => by
    unfold rangeD at hi
    rw [List.length_map, List.length_range] at hi
    exact hi
def smallI (i : Int) : Bool := decide (-8000000 ≤ i) && decide (i ≤ 8000000)
theorem smallI_iff {i : Int} (h : smallI i = true) : -8000000 ≤ i ∧ i ≤ 8000000 := by
  unfold smallI at h
  rw [Bool.and_eq_true, decide_eq_true_eq, decide_eq_true_eq] at h
  exact h
def iRange1 (fs : List Sx) : Ix := fun env => match evArgs fs env with
  | .ok [.int j] => if smallI j then .ok (true, rangeD 0 j.toNat) else .st
  | .ok _ => .st
  | .ex c => .ex c
  | .st => .st
def iRange2 (fs : List Sx) : Ix := fun env => match evArgs fs env with
  | .ok [.int i, .int j] => if smallI i && smallI j then .ok (true, rangeD i (j - i).toNat) else .st
  | .ok _ => .st
  | .ex c => .ex c
  | .st => .st
theorem iv_range1 {a : Expr} {p pos : Pos} {fs : List Sx} (hg : Gl X "range") (hm : X.mg "range" = none) (ha : AV X W [a] fs) (hs : starEach [a] X.env = [(false, eval a X.env)] := by rfl) : IV X W tg (.Call (.Name "range" p) [a] [] pos) (iRange1 fs) := (pi_range1 hg hm ha hs).imp fun σ H R z => by
  obtain ⟨F, env, rl, z⟩ := z
  refine ⟨F, env, rl, ?_⟩
  unfold iRange1 at z
  cases e : evArgs fs env with
  | ok ds =>
    rw [e] at z
    match ds, z with
    | [.int j], z =>
      intro F1 H1 vs x rs
      cases rs with
      | cons r1 rs =>
        cases rs
        cases r1
        have z' : okI X.K X.mg W F H σ R (if smallI j then .ok (true, rangeD 0 j.toNat) else .st) := z
        cases hc : smallI j with
        | false => rw [hc] at z'; exact z'.elim
        | true =>
          rw [hc] at z'
          obtain ⟨c1, c2⟩ := smallI_iff hc
          exact ⟨j, rfl, by omega, by omega, z' F1 H1 F1 _ x x.fh (fun _ => rfl) (itd_range 0 _ (by omega))⟩
    | [], z => exact z.elim
    | [.non], z => exact z.elim
    | [.bl _], z => exact z.elim
    | [.str _], z => exact z.elim
    | [.tup _], z => exact z.elim
    | [.lst _], z => exact z.elim
    | [.dct _], z => exact z.elim
    | [.scr _], z => exact z.elim
    | a :: _ :: _, z => cases a <;> exact z.elim
  | ex c => rw [e] at z; exact z
  | st => rw [e] at z; exact z
theorem iv_range2 {a b : Expr} {p pos : Pos} {fs : List Sx} (hg : Gl X "range") (hm : X.mg "range" = none) (ha : AV X W [a, b] fs) (hs : starEach [a, b] X.env = [(false, eval a X.env), (false, eval b X.env)] := by rfl) (hs2 : starEach [b] X.env = [(false, eval b X.env)] := by rfl) : IV X W tg (.Call (.Name "range" p) [a, b] [] pos) (iRange2 fs) := (pi_range2 hg hm ha hs hs2).imp fun σ H R z => by
  obtain ⟨F, env, rl, z⟩ := z
  refine ⟨F, env, rl, ?_⟩
  unfold iRange2 at z
  cases e : evArgs fs env with
  | ok ds =>
    rw [e] at z
    split at z
    · rename_i e2
      cases e2
      rename_i i j
      intro F1 H1 vs x rs
      cases rs with
      | cons r1 rs =>
        cases rs with
        | cons r2 rs =>
          cases rs
          cases r1
          cases r2
          cases hc : smallI i && smallI j with
          | false => rw [hc] at z; exact z.elim
          | true =>
            rw [hc] at z
            rw [Bool.and_eq_true] at hc
            obtain ⟨c1, c2⟩ := smallI_iff hc.1
            obtain ⟨c3, c4⟩ := smallI_iff hc.2
            exact ⟨i, j, rfl, ⟨by omega, by omega, by omega, by omega⟩, z F1 H1 F1 _ x x.fh (fun _ => rfl) (itd_range i _ (by omega))⟩
    · exact z.elim
    · rename_i e2; cases e2
    · rename_i e2; cases e2
  | ex c => rw [e] at z; exact z
  | st => rw [e] at z; exact z

/-! ### targets -/
/-- an item is stored: at one place, at several -/
inductive Tgt where
  | one (i : Nat) | many (is : List Nat)
def setMany : Env → List Nat → List D → Env
  | env, i :: is, d :: ds => setMany (env.set i (.sh d)) is ds
  | env, _, _ => env
def bindT (t : Tgt) (d : D) (env : Env) : Option Env := match t with
  | .one i => some (env.set i (.sh d))
  | .many is => match d with
    | .tup ds => if ds.length = is.length then some (setMany env is ds) else none
    | _ => none
/-- the target stores what bindT says -/
def Tgt.slots : Tgt → List Nat
  | .one i => [i]
  | .many is => is
def OnlyAt (is : List Nat) (σ σ' : Sg) : Prop := σ'.length = σ.length ∧ ∀ j, j ∉ is → σ'[j]? = σ[j]?
def gT (K : PySem.W.Frag) (t : Tgt) : TG := fun v σ H Q => ∃ F0 H0 F env d e, SRel K F0 H0 F H σ env ∧ DR K F v d ∧ bindT t d env = some e ∧ ∀ σ', SRel K F0 H0 F H σ' e → OnlyAt t.slots σ σ' → Q σ' H
def GV (X : Cx) (tg : Expr) (t : Tgt) : Prop := PG X tg (gT X.K t)
theorem _root_.L2.PG.imp {X : Cx} {e : Expr} {t t' : TG} (h : PG X e t) (k : ∀ v σ H Q, t' v σ H Q → t v σ H Q) : PG X e t' := ⟨fun pins s σ H v u Q I r q => h.run pins s σ H v u Q I r (k _ _ _ _ q)⟩
theorem gv_name {i : Nat} {x : Str} {pos : Pos} (hN : X.N.Nodup) (hi : X.N[i]? = some x) (hx : Loc X.env.scope x) (hf : X.fn x = true ∨ X.env.scope.names.lookup x = some .local := by first | exact .inl rfl | exact .inr rfl | assumption) : GV X (.Name x pos) (.one i) := (pg_name hN hi hx hf).imp fun v σ H Q z => by
  obtain ⟨F0, H0, F, env, d, e, rl, dr, b, z⟩ := z
  cases b
  exact z _ (rl.put (r := .cl d) (.refl rl.rel.sub) dr rfl i) ⟨List.length_set, fun j hj => List.getElem?_set_ne (fun e => hj (by rw [e]; exact List.mem_singleton.mpr rfl))⟩
def gNames : List Nat → TGs
  | [] => gNil
  | i :: is => gCons (gName i) (gNames is)
theorem gNames_ok {F0 H0 F H : Hp} {e : Env} {Q : Sg → Hp → Prop} : ∀ (is : List Nat) (ds : List D) (xs : List V) (σ : Sg) (env : Env), SRel K F0 H0 F H σ env → DRs K F xs ds → ds.length = is.length → setMany env is ds = e → (∀ σ', SRel K F0 H0 F H σ' e → OnlyAt is σ σ' → Q σ' H) → gNames is xs σ H Q
  | [], ds, xs, σ, env, rl, rs, hl, he, z => by
    cases rs with
    | nil => cases he; exact ⟨rfl, z σ rl ⟨rfl, fun _ _ => rfl⟩⟩
    | cons _ _ => cases hl
  | i :: is, ds, xs, σ, env, rl, rs, hl, he, z => by
    cases rs with
    | nil => cases hl
    | cons r1 rs =>
      refine ⟨_, _, rfl, ?_⟩
      exact gNames_ok is _ _ _ _ (rl.put (r := .cl _) (.refl rl.rel.sub) r1 rfl i) rs (Nat.succ.inj hl) he fun σ' r' o => z σ' r' ⟨o.1.trans List.length_set, fun j hj => (o.2 j fun q => hj (List.mem_cons_of_mem _ q)).trans (List.getElem?_set_ne (fun e => hj (by rw [e]; exact List.mem_cons_self)))⟩
theorem gv_tup {es : List Expr} {k : Nat} {n : Nat} {is : List Nat} (hc : X.calm = true) (h : PGs X es (gNames is)) (hn : (assignEach es X.env).length = n := by rfl) (hst : (assignEach es X.env).findIdx? (·.1) = none := by rfl) (hl : is.length = n := by rfl) : GV X (.Tuple es k pos) (.many is) := (pg_tup hc h hn hst).imp fun v σ H Q z => by
  obtain ⟨F0, H0, F, env, d, e, rl, dr, b, z⟩ := z
  unfold bindT at b
  cases dr <;> simp only [] at b <;> first | (cases b; done) | skip
  rename_i hs rs
  split at b
  · rename_i c
    cases b
    exact ⟨_, _, rfl, sameT rl.rel.sub hs.t, by rw [rs.len, c]; exact hl, gNames_ok is _ _ σ env rl rs c rfl z⟩
  · cases b

/-! ### for -/
theorem Ext.rebase {F0 H0 F H F' H' : Hp} (a : Ext F0 H0 F H) (b : Ext F H0 F' H') : Ext F0 H0 F' H' :=
  ⟨b.hh, a.ff.trans b.ff, b.fh, fun c o h => (b.nw c o h).elim .inl fun z => a.nw c o z⟩
theorem SRel.base {F0 H0 F H : Hp} {σ : Sg} {env : Env} (r : SRel K F0 H0 F H σ env) : SRel K F H0 F H σ env :=
  ⟨r.rel, ⟨r.ext.hh, .refl _, r.ext.fh, fun _ _ h => .inr h⟩, r.own⟩
theorem SRel.unbase {F0 H0 F H F' H' : Hp} {σ : Sg} {env : Env} (a : Ext F0 H0 F H) (r : SRel K F H0 F' H' σ env) : SRel K F0 H0 F' H' σ env := ⟨r.rel, a.rebase r.ext, r.own⟩
def loopF (t : Tgt) (b : Stx) : List D → Stx
  | [], env => .nx env
  | d :: ds, env => match bindT t d env with
    | some e => (match b e with
      | .nx e => loopF t b ds e
      | .ct e => loopF t b ds e
      | .bk e => .nx e
      | o => o)
    | none => .st
def sFor (src : Ix) (t : Tgt) (b : Stx) : Stx := fun env => match src env with
  | .ok (true, ds) => loopF t b ds env
  | .ok (false, _) => .st
  | .ex c => .ex c env
  | .st => .st
theorem sv_for {iter : Expr} {body : List Stmt} {src : Ix} {t : Tgt} {b : Stx} (hp : PassesOwn (model X.prog X.w) X.A X.env X.xe) (hc : X.calm = true) (hi : IV X W tg iter src) (hg : GV X tg t) (hb : SVs X W body b)
    (hs : ∀ x, foldedSetIterable iter X.env x = pure x := by intro _; rfl) : SV X W (.For tg iter body [] pos) (sFor src t b) := (ps_for hp hc hi hg hb hs).imp fun E σ H z => by
  obtain ⟨F0, H0, F, env, rl, z⟩ := z
  refine ⟨F, env, rl.rel, ?_⟩
  unfold sFor at z
  cases e : src env with
  | ok bd =>
    obtain ⟨k, ds⟩ := bd
    simp only [e] at z
    cases k with
    | false => exact z.elim
    | true =>
      intro F1 H1 G J x sg hG it
      have hG := hG rfl
      subst hG
      have sf0 : ∀ {F2 H2 : Hp} {σ2 : Sg} {e2 : Env}, SRel X.K F0 H0 F2 H2 σ2 e2 → Same G F2 → Same G H2 := fun r s => s.trans r.rel.sub
      refine ⟨fun i m σ' H' => ∃ F' env', SRel X.K F0 H0 F' H' σ' env' ∧ Same G F' ∧ m = ds.length - i ∧ i ≤ ds.length ∧ okS X.K X.mg W F0 H0 E (loopF t b (ds.drop i) env'), ⟨ds.length, G, env, rl.step x, .refl _, rfl, Nat.zero_le _, z⟩, ?_⟩
      rintro i m σ2 H2 ⟨F2, env2, r2, s2, rfl, hi, z2⟩
      by_cases hlt : i < ds.length
      · refine .inr ⟨it.go i H2 (sf0 r2 s2) hlt, fun σ' H' => ∃ F' env', SRel X.K F0 H0 F' H' σ' env' ∧ Same G F' ∧ okS X.K X.mg W F0 H0 E (loopF t b (ds.drop (i + 1)) env'), fun σ' H' ⟨F', env', a, c, d⟩ => ⟨ds.length - (i + 1), by omega, F', env', a, c, rfl, hlt, d⟩, fun v H3 y => ?_⟩
        obtain ⟨F3, x3, dr⟩ := it.yld i F2 H2 v H3 (sf0 r2 s2) s2 r2.rel.sub y _ (List.getElem?_eq_getElem hlt)
        rw [List.drop_eq_getElem_cons hlt] at z2
        unfold loopF at z2
        cases eb : bindT t ds[i] env2 with
        | none => rw [eb] at z2; exact z2.elim
        | some env3 =>
          simp only [eb] at z2
          refine ⟨F0, H0, F3, env2, ds[i], env3, r2.step x3, dr, eb, fun σ3 r3 _ => ?_⟩
          have s3 : Same G F3 := s2.trans x3.ff
          refine ⟨F3, H0, F3, env3, r3.base, ?_⟩
          cases e4 : b env3 <;> simp only [e4] at z2
          · exact fun F4 H4 σ4 r4 => ⟨F4, _, r4.unbase r3.ext, s3.trans r4.ext.ff, z2⟩
          · exact fun F4 H4 v x4 q => z2 F4 H4 v (r3.ext.rebase x4) q
          · exact fun F4 H4 σ4 r4 => z2 F4 H4 σ4 (r4.unbase r3.ext)
          · exact fun F4 H4 σ4 r4 => ⟨F4, _, r4.unbase r3.ext, s3.trans r4.ext.ff, z2⟩
          · exact fun F4 H4 σ4 cls r4 m => z2 F4 H4 σ4 cls (r4.unbase r3.ext) m
          · exact z2
      · have ei : i = ds.length := by omega
        subst ei
        rw [List.drop_length] at z2
        exact .inl ⟨it.stop _ H2 (sf0 r2 s2) (Nat.le_refl _), z2 F2 H2 σ2 r2⟩
  | ex c => simp only [e] at z; exact fun F1 H1 cls x m => z F1 H1 σ cls (rl.step x) m
  | st => simp only [e] at z; exact z

/-! ### comprehensions -/
def CV (X : Cx) (ifs : List Expr) (f : Tx) : Prop := PTs X ifs (tT X.K X.mg W0 f)
theorem cv_nil : CV X [] (fun _ => .ok true) := ⟨fun pins s σ H Q I h => pts_nil.run pins s σ H Q I (by
  obtain ⟨F, env, r, h⟩ := h
  exact h F H (.refl r.sub))⟩
theorem cv_one {c : Expr} {f : Tx} (h : TV X W0 c f) : CV X [c] f := pts_one h
def wipeE (env : Env) : List Nat → Env
  | [] => env
  | v :: vs => (wipeE env vs).set v .un
def compF (t : Tgt) (c : Tx) (f : Sx) : List D → Env → Out (List D)
  | [], _ => .ok []
  | d :: ds, env => match bindT t d env with
    | some e => (match c e with
      | .ok true => (match f e with
        | .ok (.bo _) => .st
        | .ok r => consO r.d (compF t c f ds env)
        | _ => .st)
      | .ok false => compF t c f ds env
      | _ => .st)
    | none => .st
def eComp (src : Ix) (t : Tgt) (c : Tx) (f : Sx) (vs : List Nat) : Sx := fun env => match src env with
  | .ok (_, ds) => (match compF t c f ds (wipeE env vs) with
    | .ok rs => .ok (.ow (.lst rs))
    | _ => .st)
  | .ex c => .ex c
  | .st => .st
theorem wipe_get (σ : Sg) : ∀ (vs : List Nat) (j : Nat), (wipe σ vs)[j]? = if j ∈ vs then (σ[j]?).map (fun _ => none) else σ[j]?
  | [], j => rfl
  | v :: vs, j => by
    unfold wipe
    by_cases e : v = j
    · subst e
      rw [if_pos List.mem_cons_self]
      by_cases h : v < σ.length
      · rw [List.getElem?_set_self (by rw [wipe_length]; exact h), List.getElem?_eq_getElem h]; rfl
      · rw [List.getElem?_eq_none (by rw [List.length_set, wipe_length]; omega), List.getElem?_eq_none (by omega)]; rfl
    · rw [List.getElem?_set_ne e, wipe_get σ vs j]
      by_cases h : j ∈ vs
      · rw [if_pos h, if_pos (List.mem_cons_of_mem _ h)]
      · rw [if_neg h, if_neg (fun q => (List.mem_cons.mp q).elim (fun z => e z.symm) h)]
theorem wipeE_get (env : Env) : ∀ (vs : List Nat) (j : Nat), (wipeE env vs)[j]? = if j ∈ vs then (env[j]?).map (fun _ => .un) else env[j]?
  | [], j => rfl
  | v :: vs, j => by
    have wl : ∀ vs, (wipeE env vs).length = env.length := fun vs => by
      induction vs with
      | nil => rfl
      | cons v vs ih => unfold wipeE; rw [List.length_set, ih]
    unfold wipeE
    by_cases e : v = j
    · subst e
      rw [if_pos List.mem_cons_self]
      by_cases h : v < env.length
      · rw [List.getElem?_set_self (by rw [wl]; exact h), List.getElem?_eq_getElem h]; rfl
      · rw [List.getElem?_eq_none (by rw [List.length_set, wl]; omega), List.getElem?_eq_none (by omega)]; rfl
    · rw [List.getElem?_set_ne e, wipeE_get env vs j]
      by_cases h : j ∈ vs
      · rw [if_pos h, if_pos (List.mem_cons_of_mem _ h)]
      · rw [if_neg h, if_neg (fun q => (List.mem_cons.mp q).elim (fun z => e z.symm) h)]
theorem wipe_again {σ σ' : Sg} {vs is : List Nat} (o : OnlyAt is (wipe σ vs) σ') (h : ∀ i ∈ is, i ∈ vs) : wipe σ' vs = wipe σ vs := by
  refine List.ext_getElem? fun j => ?_
  rw [wipe_get σ' vs j]
  by_cases hj : j ∈ vs
  · rw [if_pos hj, wipe_get σ vs j, if_pos hj]
    have hl : σ'.length = σ.length := o.1.trans (wipe_length σ vs)
    by_cases h : j < σ.length
    · rw [List.getElem?_eq_getElem (by omega), List.getElem?_eq_getElem h]; rfl
    · rw [List.getElem?_eq_none (by omega), List.getElem?_eq_none (by omega)]
  · rw [if_neg hj]
    exact o.2 j fun q => hj (h j q)
theorem wipeE_len (env : Env) : ∀ vs, (wipeE env vs).length = env.length
  | [] => rfl
  | v :: vs => by unfold wipeE; rw [List.length_set, wipeE_len env vs]
theorem Rel.wipe {F H : Hp} {σ : Sg} {env : Env} (r : Rel K F H σ env) (vs : List Nat) : Rel K F H (L2.wipe σ vs) (wipeE env vs) := by
  have key : ∀ {j : Nat} {s : Slot}, (wipeE env vs)[j]? = some s → s ≠ .un → env[j]? = some s ∧ (L2.wipe σ vs)[j]? = σ[j]? := fun {j s} q n => by
    rw [wipeE_get] at q
    rw [wipe_get]
    by_cases hj : j ∈ vs
    · rw [if_pos hj] at q
      cases e : env[j]? with
      | none => rw [e] at q; cases q
      | some z => rw [e] at q; cases q; exact absurd rfl n
    · rw [if_neg hj] at q ⊢
      exact ⟨q, rfl⟩
  refine ⟨r.sub, by rw [wipe_length, wipeE_len]; exact r.len, fun i d q => ?_, fun i d q => ?_, fun i j d e l a b c g => ?_, fun i c q => by
    obtain ⟨h1, h2⟩ := key q (fun z => by cases z)
    rw [h2]
    exact r.ex i c h1⟩
  · obtain ⟨h1, h2⟩ := key q (fun z => by cases z)
    rw [h2]
    exact r.sh i d h1
  · obtain ⟨h1, h2⟩ := key q (fun z => by cases z)
    rw [h2]
    exact r.ow i d h1
  · obtain ⟨h1, h2⟩ := key a (fun z => by cases z)
    obtain ⟨h3, h4⟩ := key b (fun z => by cases z)
    rw [h2] at c
    rw [h4] at g
    exact r.sep i j d e l h1 h3 c g
/-- one base for a block: nothing -/
theorem Rel.srel {F H : Hp} {σ : Sg} {env : Env} (r : Rel K F H σ env) : SRel K F (fun _ => none) F H σ env := ⟨r, ⟨fun _ _ z => (by cases z), .refl _, r.sub, fun _ _ _ => .inl rfl⟩, fun _ _ _ _ _ => rfl⟩
theorem tLc_of {src : Ix} {t : Tgt} {c : Tx} {f : Sx} {vs : List Nat} {σ : Sg} {H : Hp} {Q : VK} (hv : ∀ i ∈ t.slots, i ∈ vs) (z : tE K mg W (eComp src t c f vs) σ H Q) :
    tLc (tI K mg W src) (gT K t) (tT K mg W0 c) (tE K mg W0 f) vs σ H Q := by
  obtain ⟨F, env, rl, z⟩ := z
  refine ⟨F, env, rl, ?_⟩
  unfold eComp at z
  cases e : src env with
  | ok bd =>
    obtain ⟨k, ds⟩ := bd
    simp only [e] at z
    cases e2 : compF t c f ds (wipeE env vs) with
    | ok rs =>
      simp only [e2] at z
      intro F1 H1 G J x sg hG it D nD
      refine ⟨fun i m H2 => ∃ F2 acc done rest, Rel K F2 H2 (L2.wipe σ vs) (wipeE env vs) ∧ Ext F1 H1 F2 H2 ∧ F2 D = none ∧ H2 D = some (.lst acc) ∧ DRs K F2 acc done ∧ m = ds.length - i ∧ i ≤ ds.length ∧ acc.length ≤ i ∧ compF t c f (ds.drop i) (wipeE env vs) = .ok rest ∧ done ++ rest = rs, ⟨ds.length, F1, [], [], rs, ?_⟩, ?_⟩
      · have x2 : Ext F1 H1 F1 (upd H1 D (.lst [])) := .newO x.fh nD
        exact ⟨(rl.ext (x.trans x2)).wipe vs, x2, x.fh.free nD, upd_same, .nil, rfl, Nat.zero_le _, Nat.zero_le _, e2, rfl⟩
      · rintro i m H2 ⟨F2, acc, done, rest, r2, x2, nF, hD, rs2, rfl, hi, ha, ec, er⟩
        have sgh : Same G H2 := sg.trans x2.hh
        by_cases hlt : i < ds.length
        · rw [List.drop_eq_getElem_cons hlt] at ec
          unfold compF at ec
          refine .inr ⟨it.go i H2 sgh hlt, fun H5 => ∃ F5 acc done rest, Rel K F5 H5 (L2.wipe σ vs) (wipeE env vs) ∧ Ext F1 H1 F5 H5 ∧ F5 D = none ∧ H5 D = some (.lst acc) ∧ DRs K F5 acc done ∧ acc.length ≤ i + 1 ∧ compF t c f (ds.drop (i + 1)) (wipeE env vs) = .ok rest ∧ done ++ rest = rs,
            fun H' ⟨F5, acc, done, rest, a1, a2, a3, a4, a5, a6, a7, a8⟩ => ⟨ds.length - (i + 1), by omega, F5, acc, done, rest, a1, a2, a3, a4, a5, rfl, hlt, a6, a7, a8⟩, fun v H3 y => ?_⟩
          obtain ⟨F3, x3, dr⟩ := it.yld i F2 H2 v H3 sgh x2.ff r2.sub y _ (List.getElem?_eq_getElem hlt)
          have noD : ∀ {Fa Ha Fb Hb : Hp}, Ext Fa Ha Fb Hb → Fa D = none → (∃ o, Ha D = some o) → Fb D = none := fun {Fa Ha Fb Hb} xx nn ⟨o, ho⟩ => by
            cases q : Fb D with
            | none => rfl
            | some u =>
              rcases xx.nw _ _ q with w | w
              · rw [ho] at w; cases w
              · rw [nn] at w; cases w
          have nF3 := noD x3 nF ⟨_, hD⟩
          have hD3 := x3.hh _ _ hD
          cases eb : bindT t ds[i] (wipeE env vs) with
          | none => rw [eb] at ec; cases ec
          | some env3 =>
            simp only [eb] at ec
            refine ⟨F3, _, F3, _, ds[i], env3, (r2.ext x3).srel, dr, eb, fun σ3 r3 o => ⟨wipe_again o hv, ?_⟩⟩
            refine ⟨F3, env3, r3.rel, ?_⟩
            cases e3 : c env3 with
            | ok k =>
              intro F4 H4 x4
              have nF4 := noD x4 nF3 ⟨_, hD3⟩
              have hD4 := x4.hh _ _ hD3
              have r24 := (r2.ext x3).ext x4
              have x14 := x2.trans (x3.trans x4)
              cases k with
              | false =>
                simp only [e3] at ec
                rw [if_neg Bool.false_ne_true]
                exact ⟨F4, acc, done, rest, r24, x14, nF4, hD4, rs2.mono (x3.ff.trans x4.ff), by omega, ec, er⟩
              | true =>
                simp only [e3] at ec
                rw [if_pos rfl]
                refine ⟨F4, env3, r3.rel.ext x4, ?_⟩
                cases e4 : f env3 with
                | ok r =>
                  have go : r.keeps → consO r.d (compF t c f (ds.drop (i + 1)) (wipeE env vs)) = .ok rest → okE K mg W0 F4 H4 σ3 (fun y H4 => ∃ acc, H4 D = some (.lst acc) ∧ acc.length < sizeLine ∧ (∃ F5 acc' done rest, Rel K F5 (upd H4 D (.lst (acc ++ [y]))) (L2.wipe σ vs) (wipeE env vs) ∧ Ext F1 H1 F5 (upd H4 D (.lst (acc ++ [y]))) ∧ F5 D = none ∧ (upd H4 D (.lst (acc ++ [y]))) D = some (.lst acc') ∧ DRs K F5 acc' done ∧ acc'.length ≤ i + 1 ∧ compF t c f (ds.drop (i + 1)) (wipeE env vs) = .ok rest ∧ done ++ rest = rs)) (.ok r) := by
                    intro kp ec
                    intro F5 H5 u x5 q5
                    have hD5 := x5.hh _ _ hD4
                    obtain ⟨F6, x6, sm, dr6⟩ := freeze x5 q5 kp
                    have nF6 := noD x6 nF4 ⟨_, hD4⟩
                    refine ⟨acc, hD5, by rw [sizeLine_eq]; have := it.len; omega, ?_⟩
                    cases e5 : compF t c f (ds.drop (i + 1)) (wipeE env vs) with
                    | ok rest' =>
                      rw [e5] at ec
                      cases ec
                      have s6 : Same F6 (upd H5 D (.lst (acc ++ [u]))) := fun b o q => by
                        rw [upd_ne (ne_of_none q nF6)]
                        exact x6.fh _ _ q
                      have x16 : Ext F1 H1 F6 (upd H5 D (.lst (acc ++ [u]))) := by
                        have xx := x14.trans x6
                        exact ⟨fun b o q => by rw [upd_ne (ne_of_none q nD)]; exact xx.hh _ _ q, xx.ff, s6, xx.nw⟩
                      refine ⟨F6, acc ++ [u], done ++ [r.d], rest', ?_, x16, nF6, upd_same, (rs2.mono ((x3.ff.trans x4.ff).trans x6.ff)).app (.cons dr6 .nil), by rw [List.length_append]; show acc.length + 1 ≤ _; omega, rfl, by rw [List.append_assoc]; exact er⟩
                      exact ((rl.ext x).wipe vs).ext x16
                    | ex c => rw [e5] at ec; cases ec
                    | st => rw [e5] at ec; cases ec
                  cases r <;> simp only [e4] at ec
                  · exact go trivial ec
                  · exact go trivial ec
                  · cases ec
                | ex c => simp only [e4] at ec; cases ec
                | st => simp only [e4] at ec; cases ec
            | ex c => simp only [e3] at ec; cases ec
            | st => simp only [e3] at ec; cases ec
        · have ei : i = ds.length := by omega
          subst ei
          rw [List.drop_length] at ec
          cases ec
          rw [List.append_nil] at er
          subst er
          exact .inl ⟨it.stop _ H2 sgh (Nat.le_refl _), z F2 H2 _ (x.trans x2) ⟨D, rfl, x.hh.free nD, nF, acc, hD, rs2⟩⟩
    | ex c => simp only [e2] at z; exact z.elim
    | st => simp only [e2] at z; exact z.elim
  | ex c => simp only [e] at z; exact z
  | st => simp only [e] at z; exact z
theorem ev_comp {elt iter : Expr} {ifs : List Expr} {scope : Scope} {vs : List Nat} (own : List (Str × Nat)) {src : Ix} {t : Tgt} {c : Tx} {f : Sx} (hc : X.calm = true) (hN : X.N.Nodup) (hi : IV X W tg iter src) (ok : BlkOk X.N X.env.scope scope own)
    (hg : ∀ (s : Shared) (H : Hp) (C : Addr) (cl : List (Str × Addr)) (fp : List Addr), GV (X.blk s H scope (compEnvC scope cl C X.env) fp) tg t) (ht : ∀ (s : Shared) (H : Hp) (C : Addr) (cl : List (Str × Addr)) (fp : List Addr), CV (X.blk s H scope (compEnvC scope cl C X.env) fp) ifs c)
    (he : ∀ (s : Shared) (H : Hp) (C : Addr) (cl : List (Str × Addr)) (fp : List Addr), EV (X.blk s H scope (compEnvC scope cl C X.env) fp) W0 elt f) (hvs : vs = own.map (·.2) := by rfl) (hv : ∀ i ∈ t.slots, i ∈ vs := by decide) (hs : ∀ x, foldedSetIterable iter X.env x = pure x := by intro _; rfl) :
    EV X W (.ListComp elt [⟨tg, iter, ifs, 0⟩] scope pos) (eComp src t c f vs) := by
  subst hvs
  exact (pe_lc (wi := tI X.K X.mg W src) (g := gT X.K t) (tt := tT X.K X.mg W0 c) (te := tE X.K X.mg W0 f) hc hN hi ok hg ht he hs).imp fun σ H Q z => tLc_of hv z
theorem sv_setComp {i : Nat} {y : Str} {py : Pos} {elt iter : Expr} {ifs : List Expr} {scope : Scope} {vs : List Nat} (own : List (Str × Nat)) {spos : Pos} {src : Ix} {t : Tgt} {c : Tx} {f : Sx} (hc : X.calm = true) (hN : X.N.Nodup) (hy : X.N[i]? = some y) (hyl : X.env.scope.names.lookup y = some .local)
    (hsw : swapsWith (.ListComp elt [⟨tg, iter, ifs, 0⟩] scope pos) (some (.Name y py)) spos.line X.env = pure true) (hi : IV X W tg iter src) (ok : BlkOk X.N X.env.scope scope own)
    (hg : ∀ (s : Shared) (H : Hp) (C : Addr) (cl : List (Str × Addr)) (fp : List Addr), GV (X.blk s H scope (compEnvC scope cl C X.env) fp) tg t) (ht : ∀ (s : Shared) (H : Hp) (C : Addr) (cl : List (Str × Addr)) (fp : List Addr), CV (X.blk s H scope (compEnvC scope cl C X.env) fp) ifs c)
    (he : ∀ (s : Shared) (H : Hp) (C : Addr) (cl : List (Str × Addr)) (fp : List Addr), EV (X.blk s H scope (compEnvC scope cl C X.env) fp) W0 elt f) (hvs : vs = own.map (·.2) := by rfl) (hv : ∀ i ∈ t.slots, i ∈ vs := by decide) (hs : ∀ x, foldedSetIterable iter X.env x = pure x := by intro _; rfl) :
    SV X W (.Assign [.Name y py] (.ListComp elt [⟨tg, iter, ifs, 0⟩] scope pos) spos) (sSet i (eComp src t c f vs)) := by
  subst hvs
  refine (ps_setLc (wi := tI X.K X.mg W src) (g := gT X.K t) (tt := tT X.K X.mg W0 c) (te := tE X.K X.mg W0 f) hc hN hy hyl hsw hi ok hg ht he hs).imp fun E σ H z => ?_
  refine tLc_of (W := W) hv ?_
  exact tS_run (Q := fun v H1 => gName i v σ H1 E.nx) z fun F0 H0 F env rl r z F1 H1 v x q => by
    cases e : slotOf r with
    | none => simp only [e] at z; exact z.elim
    | some s =>
      simp only [e] at z
      exact z F1 H1 _ (rl.put x q e i)
end
end Fs

set_option maxHeartbeats 4000000
namespace Fs
open PySem PySem.Spec PyProof.Rows L2

/-! ### defs -/
def env0 (n : Nat) (ds : List D) : Env := ds.map .sh ++ List.replicate (n - ds.length) .un
def outS : SO → Out R
  | .nx _ => .ok (.cl .non)
  | .rt r => .ok r
  | .ex c _ => .ex c
  | _ => .st
def gFun (n : Nat) (body : Stx) (ds : List D) : Out R := outS (body (env0 n ds))
section
variable {P : Program} {w : World} {K : PySem.W.Frag} {mg : Str → Option Value} {base : Heap}
theorem srel0 {F H : Hp} {N : List Str} {vs : List V} {ds : List D} (s : Same F H) (r : DRs K F vs ds) (hl : vs.length ≤ N.length) : SRel K F H F H (L2.start N vs) (env0 N.length ds) := by
  have len := r.len
  have none_own : ∀ (i : Nat) d, (env0 N.length ds)[i]? ≠ some (.ow d) := fun i d q => by
    unfold env0 at q
    rcases Nat.lt_or_ge i (ds.map Slot.sh).length with h | h
    · rw [List.getElem?_append_left h, List.getElem?_map] at q
      cases e : ds[i]? with
      | none => rw [e] at q; cases q
      | some z => rw [e] at q; cases q
    · rw [List.getElem?_append_right h] at q
      have := List.mem_of_getElem? q
      rw [List.mem_replicate] at this
      cases this.2
  have none_exc : ∀ (i : Nat) c, (env0 N.length ds)[i]? ≠ some (.exc c) := fun i d q => by
    unfold env0 at q
    rcases Nat.lt_or_ge i (ds.map Slot.sh).length with h | h
    · rw [List.getElem?_append_left h, List.getElem?_map] at q
      cases e : ds[i]? with
      | none => rw [e] at q; cases q
      | some z => rw [e] at q; cases q
    · rw [List.getElem?_append_right h] at q
      have := List.mem_of_getElem? q
      rw [List.mem_replicate] at this
      cases this.2
  refine ⟨⟨s, ?_, fun i d q => ?_, fun i d q => absurd q (none_own i d), fun i j d e l q => absurd q (none_own i d), fun i c q => absurd q (none_exc i c)⟩, .refl s, fun i d l q => absurd q (none_own i d)⟩
  · unfold L2.start env0
    rw [List.length_append, List.length_append, List.length_map, List.length_map, List.length_replicate, List.length_replicate]
    omega
  · unfold env0 at q
    rcases Nat.lt_or_ge i (ds.map Slot.sh).length with h | h
    · rw [List.getElem?_append_left h, List.getElem?_map] at q
      cases e : ds[i]? with
      | none => rw [e] at q; cases q
      | some z =>
        rw [e] at q
        cases q
        obtain ⟨x, h1, h2⟩ := r.get e
        refine ⟨x, ?_, h2⟩
        unfold L2.start
        rw [List.length_map] at h
        rw [List.getElem?_append_left (by rw [List.length_map]; omega), List.getElem?_map, h1]
        rfl
    · rw [List.getElem?_append_right h] at q
      have := List.mem_of_getElem? q
      rw [List.mem_replicate] at this
      cases this.2
theorem fn_ok {x qual : Str} {st : Stmt} {f : Addr} {fd : FuncData} {N ps : List Str} {k : Nat} {body : Stx} (F : Fun K x qual st f fd) (S : FnScope N ps (defScope st)) (hl : ps.length ≤ N.length)
    (hb : ∀ (cdv : Value) (A : Around) (outer : List PySem.Env) (s : Shared) (H : Hp) (E : XK), Room k (A.deeper (envOfC qual (defScope st) s.heap.objs.size f cdv)) →
      SVs (cxOf (L2.CX P w) P w K mg base N qual (defScope st) f cdv A outer s H E) (fun cls d _ H => E cls d H) (defBody st) body) :
    FnG P w K mg base (k + 1) f fd ps (gFun N.length body) := by
  refine F.okX S (fun vs H Q E h => ?_) (fun cdv A outer s H vs Q E hr h => ?_)
  · obtain ⟨_, _, _, e, _⟩ := h
    exact e
  · obtain ⟨F', ds, sf, e, rs, z⟩ := h
    refine ⟨_, hb cdv A outer s H E hr, F', H, F', _, srel0 sf rs (by omega), ?_⟩
    unfold gFun outS at z
    cases e2 : body (env0 N.length ds) <;> simp only [e2] at z
    · exact fun F1 H1 σ1 r1 => z F1 H1 .non r1.ext .non
    · exact fun F1 H1 v x q => z F1 H1 v x q
    · exact fun F1 H1 σ1 cls r1 m => z F1 H1 cls r1.ext m
end

section
variable {X : Cx} {W : WX} {pos : Pos} {K : PySem.W.Frag} {mg : Str → Option Value}
/-! ### raise -/
def sRaise (c : String) : Stx := fun env => .ex c env
theorem sv_raise {C : Addr} {bmB : List Value} {B newId initId : String} {m : Str} {j : Nat} {c : String} {p p2 p3 : Pos} (hc : X.calm = true) (tk : Takes X W) (Fx : ExcBaseFacts B newId initId bmB) (q : PySem.W.excIn X.K C bmB newId = true) (gC : X.mg (Str.ofString c) = some (.ref C)) (kC : PySem.W.keepIn X.K (.ref C) = true) (r : Raises X (.ref C)) (hg : Gl X (Str.ofString c))
    (hdb : (Str.ofString c == ("__debug__" : Str)) = false := by decide) : SV X W (.Raise (some (.Call (.Name (Str.ofString c) p) [.Constant (.str m) j p2] [] p3)) none pos) (sRaise c) := (ps_raise hc tk (pmk_own Fx q gC kC r hg hdb)).imp fun E σ H z => by
  obtain ⟨F0, H0, F, env, rl, z⟩ := z
  exact z F H σ _ rl gC

/-! ### what changes an own object -/
theorem SRel.mut {F0 H0 F H : Hp} {σ : Sg} {env : Env} {i : Nat} {d d' : D} {l : Addr} {u : HO} (r : SRel K F0 H0 F H σ env) (e : env[i]? = some (.ow d)) (el : σ[i]? = some (some (.ref l))) (o : OwnAs K F (upd H l u) l d') : SRel K F0 H0 F (upd H l u) σ (env.set i (.ow d')) := by
  have hi : i < env.length := (List.getElem?_eq_some_iff.mp e).1
  obtain ⟨l', el', f, o0⟩ := r.rel.ow i d e
  rw [el] at el'
  cases el'
  have n0 := r.own i d l e el
  have other : ∀ {j : Nat} {t : Slot}, i ≠ j → (env.set i (.ow d'))[j]? = some t → env[j]? = some t := fun {j t} hj q => by rw [List.getElem?_set_ne hj] at q; exact q
  have here : ∀ {t : Slot}, (env.set i (.ow d'))[i]? = some t → t = .ow d' := fun {t} q => by
    rw [List.getElem?_set_self hi] at q
    exact (Option.some.inj q).symm
  have was : ∀ {j : Nat} {t : D}, (env.set i (.ow d'))[j]? = some (.ow t) → ∃ t', env[j]? = some (.ow t') := fun {j t} q => by
    by_cases hj : i = j
    · subst hj; exact ⟨d, e⟩
    · exact ⟨t, other hj q⟩
  refine ⟨⟨fun b w q => ?_, by rw [List.length_set]; exact r.rel.len, fun j t q => ?_, fun j t q => ?_, fun j k t t' a q1 q2 q3 q4 => ?_, fun j c q => by
    by_cases hj : i = j
    · subst hj; cases here q
    · exact r.rel.ex j c (other hj q)⟩, ⟨fun b w q => ?_, r.ext.ff, fun b w q => ?_, r.ext.nw⟩, fun j t a q1 q2 => ?_⟩
  · rw [upd_ne (ne_of_none q f)]; exact r.rel.sub _ _ q
  · by_cases hj : i = j
    · subst hj; cases here q
    · exact r.rel.sh j t (other hj q)
  · by_cases hj : i = j
    · subst hj
      cases here q
      exact ⟨l, el, f, o⟩
    · obtain ⟨a, ea, fa, oa⟩ := r.rel.ow j t (other hj q)
      have ne : a ≠ l := fun z => hj (r.rel.sep i j d t l e (other hj q) el (by rw [← z]; exact ea))
      refine ⟨a, ea, fa, ?_⟩
      cases t <;> first | exact (False.elim oa) | skip
      · obtain ⟨xs, h, rs⟩ := oa
        exact ⟨xs, by rw [upd_ne ne]; exact h, rs⟩
      · obtain ⟨xs, h, rs⟩ := oa
        exact ⟨xs, by rw [upd_ne ne]; exact h, rs⟩
      · obtain ⟨us, h, rs⟩ := oa
        exact ⟨us, h.mono (.refl _) (upd_ne ne).symm, rs⟩
  · obtain ⟨t1, q1'⟩ := was q1
    obtain ⟨t2, q2'⟩ := was q2
    exact r.rel.sep j k t1 t2 a q1' q2' q3 q4
  · rw [upd_ne (ne_of_none q n0)]; exact r.ext.hh _ _ q
  · rw [upd_ne (ne_of_none q f)]; exact r.rel.sub _ _ q
  · obtain ⟨t1, q1'⟩ := was q1
    exact r.own j t1 a q1' q2
/-- an own slot at a name, then an argument that is kept -/
def isL : D → Bool
  | .lst _ => true
  | _ => false
def isK : D → Bool
  | .dct _ => true
  | _ => false
def sMut (ty : D → Bool) (i : Nat) (f : Sx) (k : D → D → Option D) : Stx := fun env => match env[i]? with
  | some (.ow d) => if ty d then (match f env with
    | .ok (.bo _) => .st
    | .ok r => (match k d r.d with
      | some d' => .nx (env.set i (.ow d'))
      | none => .st)
    | .ex c => .ex c env
    | .st => .st) else .st
  | _ => .st
def MutR (K : PySem.W.Frag) (k : D → D → Option D) (r : V → V → Hp → (V → Hp → Prop) → Prop) : Prop := ∀ F H l y d a d' (Q : V → Hp → Prop), Same F H → F l = none → OwnAs K F H l d → DR K F y a → k d a = some d' → (∀ u v, OwnAs K F (upd H l u) l d' → Q v (upd H l u)) → r (.ref l) y H Q
theorem mut_of {ty : D → Bool} {i : Nat} {f : Sx} {k : D → D → Option D} {E : Ends} {σ : Sg} {H : Hp} {r : V → V → Hp → (V → Hp → Prop) → Prop} (go : MutR K k r) (z : tS K mg W (sMut ty i f k) E σ H) :
    ∃ l d F, σ[i]? = some (some (.ref l)) ∧ ty d = true ∧ OwnAs K F H l d ∧ tE K mg W f σ H fun y H1 => r (.ref l) y H1 fun _ H2 => E.nx σ H2 := by
  obtain ⟨F0, H0, F, env, rl, z⟩ := z
  unfold sMut at z
  cases e : env[i]? with
  | none => simp only [e] at z; exact z.elim
  | some s =>
    cases s with
    | un => simp only [e] at z; exact z.elim
    | exc _ => simp only [e] at z; exact z.elim
    | sh d => simp only [e] at z; exact z.elim
    | ow d =>
      simp only [e] at z
      obtain ⟨l, el, fl, o⟩ := rl.rel.ow i d e
      cases et : ty d with
      | false => rw [et] at z; exact z.elim
      | true =>
        rw [et, if_pos rfl] at z
        refine ⟨l, d, F, el, et, o, F, env, rl.rel, ?_⟩
        have main : ∀ rr : R, rr.keeps → okS K mg W F0 H0 E (match k d rr.d with | some d' => .nx (env.set i (.ow d')) | none => .st) → okE K mg W F H σ (fun y H1 => r (.ref l) y H1 fun _ H2 => E.nx σ H2) (.ok rr) := by
          intro rr kp z F1 H1 v x q
          obtain ⟨F2, x2, sm, dr⟩ := freeze x q kp
          have rl2 := rl.step x2
          obtain ⟨l', el', fl', o'⟩ := rl2.rel.ow i d e
          rw [el] at el'
          cases el'
          cases ek : k d rr.d with
          | none => rw [ek] at z; exact z.elim
          | some d' =>
            rw [ek] at z
            exact go F2 H1 l v d rr.d d' _ x2.fh fl' o' dr ek fun u v o2 => z F2 _ σ (rl2.mut e el o2)
        cases e2 : f env with
        | ok rr =>
          cases rr <;> simp only [e2] at z
          · exact main _ trivial z
          · exact main _ trivial z
          · exact z.elim
        | ex c => simp only [e2] at z; exact fun F1 H1 cls x m => z F1 H1 σ cls (rl.step x) m
        | st => simp only [e2] at z; exact z
theorem tyV_lst {F H : Hp} {l : Addr} {d : D} (h : isL d = true) (o : OwnAs K F H l d) : tyV K "list" (.ref l) H := by
  cases d <;> first | (cases h; done) | skip
  obtain ⟨xs, q, _⟩ := o
  exact .inl ⟨rfl, xs, .of q⟩
theorem tyV_dct {F H : Hp} {l : Addr} {d : D} (h : isK d = true) (o : OwnAs K F H l d) : tyV K "dict" (.ref l) H := by
  cases d <;> first | (cases h; done) | skip
  obtain ⟨xs, q, _⟩ := o
  exact .inr (.inr (.inl ⟨rfl, .inl ⟨_, q⟩⟩))
/-- xs.m(e) of an own list, as a statement -/
theorem sv_mut {i : Nat} {e : Expr} {f : Sx} {k : D → D → Option D} {r : V → List V → Hp → VK → Prop} (go : MutR X.K k fun x y => r x [y]) (hbm : PE X e (tBM X.K "list" r (tVar i) (tCons (tE X.K X.mg W f) tNil))) (hs : swapsWith e none pos.line X.env = pure false := by rfl) :
    SV X W (.Expr e pos) (sMut isL i f k) := (ps_expr hbm hs).imp fun E σ H z => by
  obtain ⟨l, d, F, el, ty, o, z⟩ := mut_of go z
  exact ⟨_, el, tyV_lst ty o, z⟩
/-- xs.append(e) -/
def kAppend (d a : D) : Option D := match d with
  | .lst ds => if ds.length < 16777216 then some (.lst (ds ++ [a])) else none
  | _ => none
theorem mut_append : MutR K kAppend fun x y => rAppend x [y] := fun F H l y d a d' Q sf fl o dr ek q => by
  cases d <;> first | exact (False.elim o) | (cases ek; done) | skip
  obtain ⟨xs, h, rs⟩ := o
  unfold kAppend at ek
  simp only [] at ek
  split at ek
  · rename_i c
    cases ek
    exact ⟨l, xs, y, rfl, rfl, h, by rw [sizeLine_eq, rs.len]; exact c, q _ _ ⟨_, upd_same, rs.app (.cons dr .nil)⟩⟩
  · cases ek
/-- xs.extend(e), e a list -/
def kExtend (d a : D) : Option D := match d, a with
  | .lst ds, .lst es => if ds.length + es.length ≤ 16777216 then some (.lst (ds ++ es)) else none
  | _, _ => none
theorem mut_extend : MutR K kExtend fun x y => rExtend x [y] := fun F H l y d a d' Q sf fl o dr ek q => by
  cases d <;> first | exact (False.elim o) | (cases ek; done) | skip
  cases dr <;> first | (cases ek; done) | skip
  rename_i hb rb
  obtain ⟨xs, h, rs⟩ := o
  unfold kExtend at ek
  simp only [] at ek
  split at ek
  · rename_i c
    cases ek
    exact ⟨l, _, xs, _, rfl, rfl, h, sf _ _ hb, by rw [sizeLine_eq, rs.len, rb.len]; exact c, q _ _ ⟨_, upd_same, rs.app rb⟩⟩
  · cases ek
/-- xs.clear() -/
def sMut0 (ty : D → Bool) (i : Nat) (k : D → Option D) : Stx := fun env => match env[i]? with
  | some (.ow d) => (match k d with
    | some d' => .nx (env.set i (.ow d'))
    | none => .st)
  | _ => .st
def kClear : D → Option D
  | .lst _ => some (.lst [])
  | _ => none
theorem sv_clear {i : Nat} {e : Expr} (hbm : PE X e (tBM0 X.K "list" rClear (tVar i))) (hs : swapsWith e none pos.line X.env = pure false := by rfl) :
    SV X W (.Expr e pos) (sMut0 isL i kClear) := (ps_expr hbm hs).imp fun E σ H z => by
  obtain ⟨F0, H0, F, env, rl, z⟩ := z
  unfold sMut0 at z
  cases e : env[i]? with
  | none => simp only [e] at z; exact z.elim
  | some s =>
    cases s with
    | un => simp only [e] at z; exact z.elim
    | exc _ => simp only [e] at z; exact z.elim
    | sh d => simp only [e] at z; exact z.elim
    | ow d =>
      simp only [e] at z
      obtain ⟨l, el, fl, o⟩ := rl.rel.ow i d e
      cases d <;> first | exact z.elim | skip
      have o2 := o
      obtain ⟨xs, h, rs⟩ := o
      exact ⟨_, el, tyV_lst (d := .lst _) rfl o2, l, xs, rfl, rfl, h, z F _ σ (rl.mut e el (d' := .lst []) ⟨[], upd_same, .nil⟩)⟩
/-- xs[i] = e: e first, then the place -/
def sSetIx (i : Nat) (fi fv : Sx) : Stx := fun env => match fv env with
  | .ok (.bo _) => .st
  | .ok r => (match env[i]? with
    | some (.ow (.lst ds)) => (match fi env with
      | .ok q => (match q.d with
        | .int n => (match ixN ds.length n with
          | some j => .nx (env.set i (.ow (.lst (ds.set j r.d))))
          | none => .st)
        | _ => .st)
      | .ex c => .ex c env
      | .st => .st)
    | some (.ow (.dct kvs)) => (match fi env with
      | .ok q => (match dKey q.d with
        | some k => if kvs.length < 16777216 then .nx (env.set i (.ow (.dct (dPut kvs k r.d)))) else .st
        | _ => .st)
      | .ex c => .ex c env
      | .st => .st)
    | _ => .st)
  | .ex c => .ex c env
  | .st => .st
def rSetK : TSet := fun o i v H Q => ∃ a H', o = .ref a ∧ DPut H a i v H' ∧ Q H'
def rSetA : TSet := fun o i v H Q => rSetL o i v H Q ∨ rSetK o i v H Q
theorem set_any (hu : X.A.units + 66 < cLine) : PSet X rSetA := by
  intro pins s σ H o i v ov iv u Q I ro ri rv h
  rcases h with h | ⟨a, H', rfl, g, q⟩
  · exact set_list pins s σ H o i v ov iv u Q I ro ri rv h
  · obtain rfl : ov = Value.ref a := ro
    exact d_setItem (by omega) I g ri rv fun s' I' => ⟨H', I', q⟩
theorem sv_setIx {i : Nat} {x : Str} {ie ve : Expr} {fi fv : Sx} {p p2 : Pos} (hu : X.A.units + 66 < cLine) (hp : PE X (.Name x p) (tVar i)) (hi : EV X W ie fi) (hv : EV X W ve fv)
    (ha : ∀ v, assign (.Subscript (.Name x p) ie p2) X.env v = (do
      let ov ← holding [v] (eval (.Name x p) X.env)
      let iv ← holding [v, ov] (eval ie X.env)
      standAt p2
      holding [v, ov, iv] (setItem ov iv v)
      release [v, ov, iv] []) := by intro _; rfl)
    (hs : swapsWithSole [.Subscript (.Name x p) ie p2] ve pos.line X.env = pure false := by rfl) (hw : swappedStores [.Subscript (.Name x p) ie p2] ve X.env = pure none := by rfl)
    (h1 : (assignEach [.Subscript (.Name x p) ie p2] X.env).map (·.2) = [assign (.Subscript (.Name x p) ie p2) X.env] := by rfl) : SV X W (.Assign [.Subscript (.Name x p) ie p2] ve pos) (sSetIx i fi fv) := (ps_asg hv (pg_sub hp hi (set_any hu) ha) hs hw h1).imp fun E σ H z => by
  obtain ⟨F0, H0, F, env, rl, z⟩ := z
  refine ⟨F, env, rl.rel, ?_⟩
  unfold sSetIx at z
  have main : ∀ r : R, r.keeps → okS X.K X.mg W F0 H0 E (match env[i]? with
    | some (.ow (.lst ds)) => (match fi env with
      | .ok q => (match q.d with
        | .int n => (match ixN ds.length n with
          | some j => .nx (env.set i (.ow (.lst (ds.set j r.d))))
          | none => .st)
        | _ => .st)
      | .ex c => .ex c env
      | .st => .st)
    | some (.ow (.dct kvs)) => (match fi env with
      | .ok q => (match dKey q.d with
        | some k => if kvs.length < 16777216 then .nx (env.set i (.ow (.dct (dPut kvs k r.d)))) else .st
        | _ => .st)
      | .ex c => .ex c env
      | .st => .st)
    | _ => .st) → okE X.K X.mg W F H σ (fun v H1 => gSub (tVar i) (tE X.K X.mg W fi) rSetA v σ H1 E.nx) (.ok r) := by
    intro r kp z F1 H1 v x q
    obtain ⟨F2, x2, sm, dr⟩ := freeze x q kp
    have rl2 := rl.step x2
    cases e : env[i]? with
    | none => simp only [e] at z; exact z.elim
    | some s =>
      cases s with
      | un => simp only [e] at z; exact z.elim
      | exc _ => simp only [e] at z; exact z.elim
      | sh d => simp only [e] at z; exact z.elim
      | ow d =>
        obtain ⟨l, el, fl, o⟩ := rl2.rel.ow i d e
        refine ⟨.ref l, el, F2, env, rl2.rel, ?_⟩
        cases d <;> first | exact (False.elim o) | skip
        · rename_i ds
          simp only [e] at z
          cases e3 : fi env with
          | ok q2 =>
            simp only [e3] at z
            intro F3 H3 iv x3 q3
            have rl3 := rl2.step x3
            obtain ⟨l', el', fl', o'⟩ := rl3.rel.ow i _ e
            rw [el] at el'
            cases el'
            cases e4 : q2.d <;> simp only [e4] at z <;> first | exact z.elim | skip
            rename_i n
            have q3v := q3.dv
            rw [e4] at q3v
            cases e5 : ixN ds.length n with
            | none => simp only [e5] at z; exact z.elim
            | some j =>
              simp only [e5] at z
              obtain ⟨xs, h, rs⟩ := o'
              exact .inl ⟨l, xs, n, j, rfl, q3v.int, h, by rw [rs.len]; exact e5, z F3 _ σ (rl3.mut e el ⟨_, upd_same, rs.set (dr.mono x3.ff) j⟩)⟩
          | ex c => simp only [e3] at z; exact fun F3 H3 cls x3 m => z F3 H3 σ cls (rl2.step x3) m
          | st => simp only [e3] at z; exact z
        · rename_i kvs
          simp only [e] at z
          cases e3 : fi env with
          | ok q2 =>
            simp only [e3] at z
            intro F3 H3 iv x3 q3
            have rl3 := rl2.step x3
            obtain ⟨l', el', fl', o'⟩ := rl3.rel.ow i _ e
            rw [el] at el'
            cases el'
            cases e4 : dKey q2.d with
            | none => simp only [e4] at z; exact z.elim
            | some k =>
              simp only [e4] at z
              split at z
              · rename_i c
                obtain ⟨xs, h, rs⟩ := o'
                have ek := dKey_v q3.dv e4
                subst ek
                exact .inr ⟨l, _, rfl, DPut.k (k := k) h (by rw [sizeLine_eq, rs.len]; exact c), z F3 _ σ (rl3.mut e el ⟨_, upd_same, rs.put (dr.mono x3.ff)⟩)⟩
              · exact z.elim
          | ex c => simp only [e3] at z; exact fun F3 H3 cls x3 m => z F3 H3 σ cls (rl2.step x3) m
          | st => simp only [e3] at z; exact z
        · simp only [e] at z; exact z.elim
  cases e0 : fv env with
  | ok r =>
    cases r <;> simp only [e0] at z
    · exact main _ trivial z
    · exact main _ trivial z
    · exact z.elim
  | ex c => simp only [e0] at z; exact fun F3 H3 cls x3 m => z F3 H3 σ cls (rl.step x3) m
  | st => simp only [e0] at z; exact z
end
end Fs

set_option maxHeartbeats 4000000
namespace Fs
open PySem PySem.Spec PyProof.Rows L2

/-! ### set(v), whatever v is: what filling the new set by it leads to -/
def setNew (w : World) : Obj := { cls := .type "set", dict := none, data := .set #[] 0 (.fresh 0 0 (!w.params.followText "set-order")) }
section
variable {P : Program} {w : World} {A : Around} {E : Value → Shared → Prop} {s : Shared}
theorem set_from {v : Value} {Q : Value → Shared → Prop} (hh : A.handled = none)
    (fill : ∀ B : Around, B.handled = none → wpAny (model P w) B (Builtin.Frozenset.updateFrom "set.__init__" s.heap.objs.size v) (fun _ s' => Q (.ref s.heap.objs.size) s') E { s with heap := s.heap.push (setNew w) }) :
    wpAny (model P w) A (call (.type "set") [v]) Q E s := by
  have f1 := F.called_set.notType
  have f2 := F.called_set.canCreate
  have f3 := F.typeCall_set_1 v
  have f4 := F.called_set.made
  have f5 := F.called_set.sub
  obtain ⟨c, tl, f6⟩ := F.called_set.mro
  refine wpAny_call (codeAny_of_tree ?_)
  show wpAny _ _ (callAny (.type "set") _) _ _ _
  refine wpAny_pure ⟨Code.quiet_builtin _ (by decide +kernel), codeAny_builtin F.entry_type_call ?_⟩
  rw [Around.under_plain (weight_type_call_type "set" [v] []) rfl]
  repeat (any_goals (first | assumption | wp_step))
  refine codeAny_mono (L2.code_set_led1 v (E := E) (Q₁ := fun o t => o = .ref s.heap.objs.size ∧ t = { s with heap := s.heap.push (setNew w) }) ⟨rfl, rfl⟩) fun r t hr => ?_
  cases r with
  | error e => exact hr
  | ok fl =>
    cases fl with
    | ret o =>
      obtain ⟨rfl, rfl⟩ := hr
      have g1 : (s.heap.push (setNew w)).get? s.heap.objs.size = some (setNew w) := Heap.get?_push_size _ rfl
      have g2 : Shared.TypeIs { s with heap := s.heap.push (setNew w) } (.ref s.heap.objs.size) "set" := ⟨_, g1, rfl⟩
      have g3 := F.called_set.init.lookup
      have g4 := F.called_set.init.bind (.ref s.heap.objs.size)
      repeat (any_goals (first | assumption | wp_step))
      refine codeAny_mono (codeAny_call_builtin (R := wants (fun r t => r = .none ∧ Q (.ref s.heap.objs.size) t) E) F.called_set.init.plain F.entry_set_init (check_set_init_1 g2 ?_)) fun r t hr => ?_
      · unfold Builtin.«set.__init__» noKeywords
        generalize hU : Builtin.Frozenset.updateFrom = U at fill ⊢
        wp_walk
        refine wpAny_mono (fill A.in1.in1 (by simp [hh])) (fun _ t q => ?_) fun _ _ z => z
        exact wpAny_pure ⟨rfl, q⟩
      · cases r with
        | error e => exact hr
        | ok fl =>
          cases fl with
          | ret r =>
            obtain ⟨rfl, hq⟩ := hr
            repeat (any_goals (first | assumption | wp_step))
          | _ => exact hr.elim
    | _ => exact hr.elim
/-- the new set, empty -/
theorem setNew_at {h : Heap} {a : Addr} (S : Int → Bool) (hS : ∀ j, S j = false) (ho : h.get? a = some (setNew w)) : SetR w h a S 0 := by
  refine (setR_new_at (w := w) (ns := []) ho).congr fun j => ?_
  rw [hS j]
  simp
end
end Fs

set_option maxHeartbeats 4000000
namespace Fs
open PySem PySem.Spec PyProof.Rows L2
section
variable {P : Program} {w : World} {B : Around} {E : Value → Shared → Prop} {s : Shared}
/-- what filling by ints leaves: the members, all else as it was -/
def FilledBy (w : World) (h0 : Heap) (a : Addr) (ns : List Int) (s0 s' : Shared) : Prop :=
  ∃ c, c ≤ ns.length ∧ SetR w s'.heap a (fun j => decide (j ∈ ns)) c ∧ (∀ b o, h0.get? b = some o → s'.heap.get? b = some o) ∧ s'.gens = s0.gens ∧ s'.drawn = s0.drawn ∧ s'.os = s0.os
/-- by a walk that has begun -/
theorem fill_by {ns : List Int} {I : Addr} {fp : List Addr} {St : Nat → Heap → Prop} {Pv : Nat → Value → Prop} {n : Nat} {h0 : Heap} {S : Addr} {s2 : Shared} {R : Result → Shared → Prop}
    (Wk : Walks P w B.in1 I fp [I] n Pv St) (hf : S ∉ fp) (hn : n = ns.length) (hb : ns.length + 1 < scanBound) (hv : ∀ i v, Pv i v → ∃ k t, ns[i]? = some k ∧ v = .int k t) (st : St 0 s2.heap) (hS : s2.heap.get? S = some (setNew w))
    (old : ∀ b o, h0.get? b = some o → s2.heap.get? b = some o) (n1 : h0.get? S = none) (n2 : h0.get? I = none)
    (hR : ∀ s', FilledBy w h0 S ns s2 s' → R (.ok (.ret .none)) s') : codeAny (model P w) B (.builtin "set.update.loop" ⟨[.ref S, .ref I], []⟩) R s2 := by
  refine set_update_ints Wk.toS S hf ns hn hb hv (n - 0) 0 s2 rfl (Nat.zero_le _) st ⟨0, Nat.le_refl 0, setNew_at _ (fun j => by simp) hS⟩ fun s' c hm hc hs => hR s' ⟨c, hn ▸ hc, hs, fun b o e => hm.heap b o (fun z => ?_) (old b o e), hm.gens, hm.drawn, hm.os⟩
  rcases List.mem_cons.mp z with z | z
  · rw [z, n1] at e; cases e
  · rw [List.mem_singleton.mp z, n2] at e; cases e
/-- the walk's run, then nothing more -/
theorem fill_end {ns : List Int} {I : Addr} {fp : List Addr} {St : Nat → Heap → Prop} {Pv : Nat → Value → Prop} {n : Nat} {s2 : Shared} {Q : Unit → Shared → Prop}
    (Wk : Walks P w B.in1 I fp [I] n Pv St) (hf : s.heap.objs.size ∉ fp) (hn : n = ns.length) (hb : ns.length + 1 < scanBound) (hv : ∀ i v, Pv i v → ∃ k t, ns[i]? = some k ∧ v = .int k t) (st : St 0 s2.heap)
    (old : ∀ b o, (s.heap.push (setNew w)).get? b = some o → s2.heap.get? b = some o) (hI : s.heap.objs.size < I) (g : s2.gens = s.gens) (d : s2.drawn = s.drawn) (os : s2.os = s.os)
    (h : ∀ s', FilledBy w s.heap s.heap.objs.size ns s s' → Q () s') :
    wpAny (model P w) B (do let _ ← runValue (.builtin "set.update.loop" ⟨[.ref s.heap.objs.size, .ref I], []⟩); pure ()) Q E s2 := by
  refine wpAny_bind (wpAny_runValue ?_)
  refine fill_by (h0 := s.heap) Wk hf hn hb hv st (old _ _ (Heap.get?_push_size _ rfl)) (fun b o e => old b o (Heap.get?_push_of_some _ e)) (Heap.get?_none_of_le (Nat.le_refl _)) (Heap.get?_none_of_le (Nat.le_of_lt hI)) fun s' f => ?_
  obtain ⟨c, f1, f2, f3, f4, f5, f6⟩ := f
  exact wpAny_pure (h s' ⟨c, f1, f2, f3, f4.trans g, f5.trans d, f6.trans os⟩)
theorem ints_get {items : Array Value} {ns : List Int} (hi : IntsAre items.toList ns) (i : Nat) (v : Value) (e : items[i]? = some v) : ∃ k t, ns[i]? = some k ∧ v = .int k t := by
  have q := IntsAre.length hi
  rw [Array.length_toList] at q
  have lt : i < ns.length := by rw [← q]; exact (Array.getElem?_eq_some_iff.mp e).1
  obtain ⟨t, z⟩ := PyProof.Rows.IntsAre.int_at hi i v (by rw [Array.getElem?_toList]; exact e)
  refine ⟨ns[i], t, List.getElem?_eq_getElem lt, ?_⟩
  rw [z, List.getD_eq_getElem?_getD, List.getElem?_eq_getElem lt]
  rfl
theorem fill_list {l : Addr} {items : Array Value} {ns : List Int} {Q : Unit → Shared → Prop} (hh : B.handled = none) (hl : s.heap.IsList l items) (hi : IntsAre items.toList ns) (hb : ns.length + 1 < scanBound)
    (h : ∀ s', FilledBy w s.heap s.heap.objs.size ns s s' → Q () s') : wpAny (model P w) B (Builtin.Frozenset.updateFrom "set.__init__" s.heap.objs.size (.ref l)) Q E { s with heap := s.heap.push (setNew w) } := by
  have hz : items.size = ns.length := by
    have q := IntsAre.length hi
    rw [Array.length_toList] at q
    exact q
  have hl1 : (s.heap.push (setNew w)).IsList l items := hl.push _
  obtain ⟨ol, ho, hc, nl, hd⟩ := id hl1
  have hT : Shared.TypeIs { s with heap := s.heap.push (setNew w) } (.ref l) "list" := ⟨ol, ho, hc⟩
  have hls : l < s.heap.objs.size := by
    obtain ⟨o, e, _⟩ := hl
    exact Heap.lt_size e
  have sz : (s.heap.push (setNew w)).objs.size = s.heap.objs.size + 1 := Heap.size_push ..
  have k1 := F.sub_list_set
  have k2 := F.sub_list_frozenset
  unfold Builtin.Frozenset.updateFrom
  generalize hp : pyIter = PI
  wp_walk
  subst hp
  refine wpAny_pyIter_list hl1 ?_
  refine fill_end (ns := ns) (s2 := { s with heap := (s.heap.push (setNew w)).push { cls := .type "list_iterator", data := .fields #[.ref l, .int 0 0] } }) (Walks.list (by simp [hh]) _ l (by rw [sz]; exact Nat.ne_of_lt (Nat.lt_succ_of_lt hls)) items) ?_ hz hb (ints_get hi) ⟨⟨_, Heap.get?_push_size _ rfl, rfl, rfl⟩, hl1.push _⟩ (fun b o e => Heap.get?_push_of_some _ e) (by rw [sz]; exact Nat.lt_succ_self _) rfl rfl rfl h
  rw [sz]
  simp only [List.mem_cons, List.not_mem_nil, or_false, not_or]
  exact ⟨Nat.ne_of_lt (Nat.lt_succ_self _), Nat.ne_of_gt hls⟩
theorem fill_tuple {l : Addr} {items : Array Value} {ns : List Int} {Q : Unit → Shared → Prop} (hh : B.handled = none) (hl : s.heap.IsTuple l items) (hi : IntsAre items.toList ns) (hb : ns.length + 1 < scanBound)
    (h : ∀ s', FilledBy w s.heap s.heap.objs.size ns s s' → Q () s') : wpAny (model P w) B (Builtin.Frozenset.updateFrom "set.__init__" s.heap.objs.size (.ref l)) Q E { s with heap := s.heap.push (setNew w) } := by
  have hz : items.size = ns.length := by
    have q := IntsAre.length hi
    rw [Array.length_toList] at q
    exact q
  have hls : l < s.heap.objs.size := by
    obtain ⟨o, e, _⟩ := hl
    exact Heap.lt_size e
  have hl1 : (s.heap.push (setNew w)).IsTuple l items := hl.push _
  obtain ⟨ol, ho, hc, nl, hd⟩ := id hl1
  have hT : Shared.TypeIs { s with heap := s.heap.push (setNew w) } (.ref l) "tuple" := ⟨ol, ho, hc⟩
  have sz : (s.heap.push (setNew w)).objs.size = s.heap.objs.size + 1 := Heap.size_push ..
  have k1 := F.sub_tuple_set
  have k2 := F.sub_tuple_frozenset
  unfold Builtin.Frozenset.updateFrom
  generalize hp : pyIter = PI
  wp_walk
  subst hp
  refine wpAny_pyIter_tuple hl1 ?_
  refine fill_end (ns := ns) (s2 := { s with heap := (s.heap.push (setNew w)).push { cls := .type "tuple_iterator", data := .fields #[.ref l, .int 0 0] } }) (Walks.tuple (by simp [hh]) _ l (by rw [sz]; exact Nat.ne_of_lt (Nat.lt_succ_of_lt hls)) items) ?_ hz hb (ints_get hi) ⟨⟨_, Heap.get?_push_size _ rfl, rfl, rfl⟩, hl1.push _⟩ (fun b o e => Heap.get?_push_of_some _ e) (by rw [sz]; exact Nat.lt_succ_self _) rfl rfl rfl h
  rw [sz]
  simp only [List.mem_cons, List.not_mem_nil, or_false, not_or]
  exact ⟨Nat.ne_of_lt (Nat.lt_succ_self _), Nat.ne_of_gt hls⟩
end

/-! ### sorted of a set of ints, of any size -/
section
variable {P : Program} {w : World} {A : Around} {E : Value → Shared → Prop} {s : Shared} {a : Addr}
theorem sorted_setA {S : Int → Bool} {n : Nat} {Q : Value → Shared → Prop} (R : SetR w s.heap a S n) (hh : A.handled = none)
    (hQ : ∀ s' p (out : List Value) (c : Nat) (ns : List Int), (∀ b o, s.heap.get? b = some o → s'.heap.get? b = some o) → s'.gens = s.gens → s'.os = s.os → s.heap.objs.size ≤ p →
      s'.heap.get? p = some (seqObj "list" out.toArray c) → IntsAre out ns → ns.Pairwise (· < ·) → (∀ k, k ∈ ns ↔ S k = true) → ns.length < scanBound → Q (.ref p) s') :
    wpAny (model P w) A (call (.builtin "sorted") [.ref a]) Q E s := by
  obtain ⟨o, es, ep, t, ho, hx, hd, good, nd, mem, room, fits, hn, ris, led⟩ := R
  have hb : es.size ≤ sizeLine := by
    rw [sizeLine_eq]
    have : scanBound = 4096 := rfl
    omega
  refine Calls.call_function_entry kind_sorted plain_sorted entry_sorted (args_sorted1 _) ?_
  unfold Builtin.«sorted»
  refine wpAny_bind (m := checkCount "sorted" 1 1 _) (wpAny_pure ?_)
  refine wpAny_bind (collect_set (A := A.in1) hh ⟨o, ho, hx.1, hd⟩ fits room ris led fun s1 vs old low gens os perm => ?_)
  have len : vs.length = es.size := by rw [perm.length_eq, List.length_map, Array.length_toList]
  have iA : IntsAre vs (vs.map Builtin.Re.reRawOf) := ints_of vs fun v hv => by
    obtain ⟨e, he, q⟩ := List.mem_map.mp (perm.mem_iff.mp hv)
    obtain ⟨k, tk, e1, _⟩ := good e he
    exact ⟨k, tk, q ▸ e1⟩
  have keys : (vs.map Builtin.Re.reRawOf).Perm (es.toList.map keyOf) := by
    have q := perm.map Builtin.Re.reRawOf
    rw [List.map_map] at q
    exact q
  refine wpAny_bind (wpAny_newList ?_ (by omega))
  have here : (s1.heap.push (seqObj "list" vs.toArray 0)).get? s1.heap.objs.size = some (seqObj "list" vs.toArray 0) := Heap.get?_push_size _ rfl
  refine wpAny_bind (wpAny_holding (wpAny_call_entry slot_list_sort ⟨_, here, rfl⟩ entry_list_sort
    (SrtO.list_sort_ord SrtO.swo_int here (by omega) (fun h2 => SrtO.ints_sortable iA h2) fun out h1 h2 => ⟨_, rfl, ?_⟩) (args_list_sort _)))
  obtain ⟨q1, q2, q3⟩ := SrtO.ints_out iA h1 h2
  obtain ⟨c, hc⟩ := sortedHeap_at (vs := vs) (out := out.toArray) here
  have all := q2.trans keys
  refine wpAny_pure ⟨_, rfl, hQ _ s1.heap.objs.size out c (out.map SrtO.iv) (fun b u e => ?_) gens os low hc q1 (lt_of_le_nodup _ q3 (all.nodup_iff.mpr nd)) (fun k => by rw [all.mem_iff, ← mem k]) ?_⟩
  · have z := old b u e
    have lt := Heap.lt_size z
    show (sortedHeap (s1.heap.push (seqObj "list" vs.toArray 0)) s1.heap.objs.size vs out.toArray).get? b = some u
    rw [sortedHeap_old (Nat.ne_of_lt lt) (by rw [Heap.size_push]; exact Nat.lt_succ_of_lt lt)]
    exact Heap.get?_push_of_some _ z
  · rw [all.length_eq, List.length_map, Array.length_toList]; exact room
end

/-! ### in the layer's words -/
section
variable {X : Cx}
def rSetI (K : PySem.W.Frag) (w : World) : List V → Hp → VK → Prop := fun vs H Q => ∃ (l : Addr) (ns : List Int), vs = [.ref l] ∧ (SqL K H l (ns.map V.int) ∨ SqT K H l (ns.map V.int)) ∧ ns.length + 1 < scanBound ∧
  ∀ p c, c ≤ ns.length → H p = none → Q (.ref p) (upd H p (SetO w p (fun j => decide (j ∈ ns)) c))
theorem cr_setI (hc : X.calm = true) : CallR X (.type "set") (rSetI X.K X.w) := by
  intro pins s σ H vs us Q I r h
  obtain ⟨l, ns, rfl, hq, hb, q⟩ := h
  rw [Vals.ref1 r]
  have done : ∀ s', FilledBy X.w s.heap s.heap.objs.size ns s s' → EP X pins σ Q (.ref s.heap.objs.size) s' := fun s' f => by
    obtain ⟨c, f1, f2, f3, f4, f5, f6⟩ := f
    have hn : H s.heap.objs.size = none := I.hok.fresh (Nat.le_refl _)
    have J : L2.Inv X pins σ (upd H s.heap.objs.size (SetO X.w s.heap.objs.size (fun j => decide (j ∈ ns)) c)) { s with heap := s'.heap, gens := s'.gens, drawn := s'.drawn, toks := s'.toks } :=
      I.call (ch := []) (Un.laid f3 (Nat.le_refl _) hn) (I.hok.laid f3 (Nat.le_refl _) (setO_new f2)) (by rw [f4]; exact I.bare) (fun _ z => nomatch z)
    have e : s' = { s with heap := s'.heap, gens := s'.gens, drawn := s'.drawn, toks := s'.toks } := by
      cases s'
      cases s
      cases f6
      rfl
    rw [e]
    exact ⟨.ref _, _, J, rfl, q _ c f1 hn⟩
  refine set_from (I.ok.hd hc) fun B hB => ?_
  rcases hq with hq | hq
  · obtain ⟨its, rv, pl, hz⟩ := I.list hq
    exact fill_list hB pl.isList (by simpa using rv.ints) hb done
  · obtain ⟨its, rv, pl, hz⟩ := I.tuple hq
    exact fill_tuple hB (show s.heap.IsTuple l its.toArray from pl) (by simpa using rv.ints) hb done
def rSortedSetA (w : World) : List V → Hp → VK → Prop := fun vs H Q => ∃ (a : Addr) (S : Int → Bool) (n : Nat), vs = [.ref a] ∧ H a = some (SetO w a S n) ∧
  ∀ (ns : List Int) (p : Addr), ns.Pairwise (· < ·) → (∀ k : Int, k ∈ ns ↔ S k = true) → H p = none → Q (.ref p) (upd H p (.lst (ns.map V.int)))
theorem cr_sortedSetA (hc : X.calm = true) : CallR X (.builtin "sorted") (rSortedSetA X.w) := by
  intro pins s σ H vs us Q I r h
  obtain ⟨a, S, n, rfl, ha, q⟩ := h
  rw [Vals.ref1 r]
  refine sorted_setA (setO_get I ha) (I.ok.hd hc) fun s' p out c ns old gens os low hp iA up mem hl => ?_
  have hlen : (ns.map V.int).length ≤ sizeLine := by
    rw [List.length_map, sizeLine_eq]
    have : scanBound = 4096 := rfl
    omega
  have hn : H p = none := I.hok.fresh low
  have J : L2.Inv X pins σ (upd H p (.lst (ns.map V.int))) { s with heap := s'.heap, gens := s'.gens, drawn := s'.drawn, toks := s'.toks } :=
    I.call (ch := []) (Un.laid old low hn) (I.hok.laid old low ⟨hlen, out, c, vals_of_ints iA, hp⟩) (by rw [gens]; exact I.bare) (fun _ z => nomatch z)
  have e : s' = { s with heap := s'.heap, gens := s'.gens, drawn := s'.drawn, toks := s'.toks } := by
    cases s'
    cases s
    cases os
    rfl
  rw [e]
  exact ⟨.ref p, _, J, rfl, q ns p up mem hn⟩
end

/-! ### sorted(set(..)) by data -/
def insI (x : Int) : List Int → List Int
  | [] => [x]
  | y :: r => if x < y then x :: y :: r else if x = y then y :: r else y :: insI x r
/-- the rising list of numbers, each once -/
def sset : List Int → List Int
  | [] => []
  | x :: r => insI x (sset r)
theorem mem_insI {k x : Int} : ∀ {l : List Int}, k ∈ insI x l ↔ k = x ∨ k ∈ l
  | [] => by simp [insI]
  | y :: r => by
    unfold insI
    by_cases h1 : x < y
    · rw [if_pos h1]; simp
    · rw [if_neg h1]
      by_cases h2 : x = y
      · rw [if_pos h2]; subst h2; simp
      · rw [if_neg h2, List.mem_cons, mem_insI, List.mem_cons]
        constructor
        · rintro (h | h | h) <;> simp [h]
        · rintro (h | h | h) <;> simp [h]
theorem up_insI {x : Int} : ∀ {l : List Int}, l.Pairwise (· < ·) → (insI x l).Pairwise (· < ·)
  | [], _ => by simp [insI]
  | y :: r, h => by
    obtain ⟨a, b⟩ := List.pairwise_cons.mp h
    unfold insI
    by_cases h1 : x < y
    · rw [if_pos h1]
      refine List.pairwise_cons.mpr ⟨fun z hz => ?_, h⟩
      rcases List.mem_cons.mp hz with e | hz
      · omega
      · have := a z hz; omega
    · rw [if_neg h1]
      by_cases h2 : x = y
      · rw [if_pos h2]; exact h
      · rw [if_neg h2]
        refine List.pairwise_cons.mpr ⟨fun z hz => ?_, up_insI b⟩
        rcases mem_insI.mp hz with e | hz
        · omega
        · exact a z hz
theorem mem_sset {k : Int} : ∀ {l : List Int}, k ∈ sset l ↔ k ∈ l
  | [] => by simp [sset]
  | x :: r => by unfold sset; rw [mem_insI, mem_sset, List.mem_cons]
theorem up_sset : ∀ (l : List Int), (sset l).Pairwise (· < ·)
  | [] => by simp [sset]
  | x :: r => by unfold sset; exact up_insI (up_sset r)
/-- two rising lists with the same members are one -/
theorem up_one : ∀ {l m : List Int}, l.Pairwise (· < ·) → m.Pairwise (· < ·) → (∀ k, k ∈ l ↔ k ∈ m) → l = m
  | [], [], _, _, _ => rfl
  | [], y :: m, _, _, h => by have := (h y).mpr List.mem_cons_self; cases this
  | x :: l, [], _, _, h => by have := (h x).mp List.mem_cons_self; cases this
  | x :: l, y :: m, hl, hm, h => by
    obtain ⟨a, b⟩ := List.pairwise_cons.mp hl
    obtain ⟨c, d⟩ := List.pairwise_cons.mp hm
    have e : x = y := by
      rcases List.mem_cons.mp ((h x).mp List.mem_cons_self) with e | e
      · exact e
      · rcases List.mem_cons.mp ((h y).mpr List.mem_cons_self) with f | f
        · exact f.symm
        · have := c x e; have := a y f; omega
    subst e
    rw [up_one b d fun k => ?_]
    constructor
    · intro hk
      rcases List.mem_cons.mp ((h k).mp (List.mem_cons_of_mem _ hk)) with e | e
      · subst e; have := a k hk; omega
      · exact e
    · intro hk
      rcases List.mem_cons.mp ((h k).mpr (List.mem_cons_of_mem _ hk)) with e | e
      · subst e; have := c k hk; omega
      · exact e
def seqInts : D → Option (List Int)
  | .lst l => intsOf l
  | .tup l => intsOf l
  | .scr ns => some ns
  | _ => none
def dSortedSet (d : D) : Out R := match seqInts d with
  | some ns => if ns.length < 4095 then .ok (.ow (.lst ((sset ns).map D.int))) else .st
  | none => .st
theorem n_sortedSet : ∀ d, noEx (dSortedSet d) := by
  intro d; unfold dSortedSet; repeat' (first | trivial | split)
section
variable {X : Cx} {W : WX} {pos : Pos} {K : PySem.W.Frag}
theorem seqInts_v {F H : Hp} {x : V} {a : D} {ns : List Int} (s : Same F H) (hx : DV K F H x a) (e : seqInts a = some ns) : ∃ l, x = .ref l ∧ (SqL K H l (ns.map V.int) ∨ SqT K H l (ns.map V.int)) := by
  cases a <;> simp only [seqInts] at e <;> first | (cases e; done) | skip
  · obtain ⟨l, xs, rfl, q1, r1⟩ := hx.tup s
    rw [intsOf_eq e] at r1
    have e2 := r1.ints
    subst e2
    exact ⟨l, rfl, .inr q1⟩
  · obtain ⟨l, xs, rfl, q1, r1⟩ := hx.lst s
    rw [intsOf_eq e] at r1
    have e2 := r1.ints
    subst e2
    exact ⟨l, rfl, .inl (.of q1)⟩
  · cases e
    obtain ⟨l, rfl, q1⟩ := hx.scr s
    exact ⟨l, rfl, .inl q1⟩
theorem ev_sortedSet {p p2 pos2 : Pos} {e : Expr} {f : Sx} (hc : X.calm = true) (hg : Gl X "sorted") (hm : X.mg "sorted" = none) (hg2 : Gl X "set") (hm2 : X.mg "set" = none) (ha : EV X W e f)
    (he : starEach [e] X.env = (false, eval e X.env) :: starEach [] X.env := by rfl) (he2 : starEach [.Call (.Name "set" p2) [e] [] pos2] X.env = (false, eval (.Call (.Name "set" p2) [e] [] pos2) X.env) :: starEach [] X.env := by rfl) :
    EV X W (.Call (.Name "sorted" p) [.Call (.Name "set" p2) [e] [] pos2] [] pos) (e1 dSortedSet f) :=
  (pe_callB (cr_sortedSetA hc) hg hm (by decide +kernel) (pa_cons (pe_callTy (cr_setI hc) hg2 hm2 (by decide +kernel) (pa_cons ha pa_nil he) (by decide) (by decide) he rfl) pa_nil he2) (by decide) (by decide) he2 rfl).imp fun σ H Q h => by
    refine t1_of (K := X.K) (mg := X.mg) (W := W) (r := fun x H Q => rSetI X.K X.w [x] H fun y H1 => rSortedSetA X.w [y] H1 Q) (φ := dSortedSet) (fun F H x a Q s hx h => ?_) n_sortedSet h
    unfold dSortedSet at h
    cases e1 : seqInts a with
    | none => rw [e1] at h; exact h.elim
    | some ns =>
      rw [e1] at h
      obtain ⟨c, h⟩ := if_some h
      obtain ⟨l, rfl, hq⟩ := seqInts_v s hx e1
      refine ⟨l, ns, rfl, hq, by show ns.length + 1 < 4096; omega, fun p c _ np => ?_⟩
      refine ⟨p, _, c, rfl, upd_same, fun out q up mem nq => ?_⟩
      have eo : out = sset ns := up_one up (up_sset ns) fun k => by rw [mem k, mem_sset, decide_eq_true_iff]
      subst eo
      have x1 := Ext.newO (o := SetO X.w p (fun j => decide (j ∈ ns)) c) s np
      have x2 := Ext.newO (o := .lst ((sset ns).map V.int)) x1.fh nq
      exact h F _ _ (x1.trans x2) ⟨q, rfl, x1.hh.free nq, s.free (x1.hh.free nq), _, upd_same, .of_ints _⟩
end
end Fs

set_option maxHeartbeats 4000000
namespace Fs
open PySem PySem.Spec PyProof.Rows L2
theorem hu66 {A : Around} {k : Nat} (hr : Room k A) : A.units + 66 < cLine := by have := hr.un; omega
section
variable {X : Cx} {W : WX} {pos : Pos} {K : PySem.W.Frag} {mg : Str → Option Value} {tg : Expr}
/-- (a, b, ..) = e -/
def sAsgT (t : Tgt) : Sx → Stx := sRun fun r env => match r with
  | .bo _ => .st
  | r => match bindT t r.d env with
    | some e => .nx e
    | none => .st
theorem sv_asgT {e : Expr} {f : Sx} {t : Tgt} (he : EV X W e f) (hg : GV X tg t) (hs : swapsWithSole [tg] e pos.line X.env = pure false := by rfl) (hw : swappedStores [tg] e X.env = pure none := by rfl)
    (h1 : (assignEach [tg] X.env).map (·.2) = [assign tg X.env] := by rfl) : SV X W (.Assign [tg] e pos) (sAsgT t f) := (ps_asg he hg hs hw h1).imp fun E σ H z =>
  tS_run (Q := fun v H1 => gT X.K t v σ H1 E.nx) z fun F0 H0 F env rl r z F1 H1 v x q => by
    have main : r.keeps → okS X.K X.mg W F0 H0 E (match bindT t r.d env with | some e => .nx e | none => .st) → gT X.K t v σ H1 E.nx := by
      intro kp z
      obtain ⟨F2, x2, sm, dr⟩ := freeze x q kp
      cases e : bindT t r.d env with
      | none => rw [e] at z; exact z.elim
      | some e' =>
        rw [e] at z
        exact ⟨F0, H0, F2, env, r.d, e', rl.step x2, dr, e, fun σ' r' _ => z F2 H1 σ' r'⟩
    cases r with
    | cl d => exact main trivial z
    | ow d => exact main trivial z
    | bo d => exact z.elim
theorem call_max2X (hc : X.calm = true) : CallR X (.builtin "max") (fun xs H Q => ∃ i j, xs = [.int i, .int j] ∧ Q (.int (if j > i then j else i)) H) := call_max2 hc
end
end Fs

set_option maxHeartbeats 4000000
namespace Fs
open PySem PySem.Spec PyProof.Rows L2
section
variable {X : Cx} {K : PySem.W.Frag} {F H : Hp} {Q : VK} {W : WX} {pos : Pos} {mg : Str → Option Value}
/-! ### min and max of two whole numbers -/
def dMin2 : D → D → Out R
  | .int i, .int j => cI (if j < i then j else i)
  | _, _ => .st
theorem o2_min2 : Op2 K (fun x y H Q => ∃ i j, [x, y] = [V.int i, V.int j] ∧ Q (.int (if j < i then j else i)) H) dMin2 := by
  intro F H x y a b Q s hx hy h
  cases a <;> first | exact (False.elim h) | skip
  cases b <;> first | exact (False.elim h) | skip
  have e := hx.int
  subst e
  have e := hy.int
  subst e
  exact ⟨_, _, rfl, okV_cl s h (.int _)⟩
theorem n_min2 : ∀ a b, noEx (dMin2 a b) := by
  intro a b; unfold dMin2 cI; repeat' (first | trivial | split)
theorem call_min2X (hc : X.calm = true) : CallR X (.builtin "min") (fun xs H Q => ∃ i j, xs = [.int i, .int j] ∧ Q (.int (if j < i then j else i)) H) := call_min2 hc
/-! ### min, max of a list of whole numbers -/
def minI (ns : List Int) : Int := ns.tail.foldl (fun a b => if b < a then b else a) (ns.headD 0)
def maxI (ns : List Int) : Int := ns.tail.foldl (fun a b => if a < b then b else a) (ns.headD 0)
theorem foldMin : ∀ (ns : List Int) (a : Int), (ns.foldl (fun a b => if b < a then b else a) a = a ∨ ns.foldl (fun a b => if b < a then b else a) a ∈ ns) ∧ ns.foldl (fun a b => if b < a then b else a) a ≤ a ∧ ∀ y ∈ ns, ns.foldl (fun a b => if b < a then b else a) a ≤ y
  | [], a => ⟨.inl rfl, Int.le_refl _, fun y h => by cases h⟩
  | n :: ns, a => by
    obtain ⟨h1, h2, h3⟩ := foldMin ns (if n < a then n else a)
    rw [List.foldl_cons]
    refine ⟨?_, ?_, fun y hy => ?_⟩
    · rcases h1 with e | e
      · rw [e]
        by_cases c : n < a
        · rw [if_pos c]; exact .inr List.mem_cons_self
        · rw [if_neg c]; exact .inl rfl
      · exact .inr (List.mem_cons_of_mem _ e)
    · refine Int.le_trans h2 ?_
      by_cases c : n < a
      · rw [if_pos c]; omega
      · rw [if_neg c]; omega
    · rcases List.mem_cons.mp hy with e | e
      · subst e
        refine Int.le_trans h2 ?_
        by_cases c : y < a
        · rw [if_pos c]; omega
        · rw [if_neg c]; omega
      · exact h3 y e
theorem foldMax : ∀ (ns : List Int) (a : Int), (ns.foldl (fun a b => if a < b then b else a) a = a ∨ ns.foldl (fun a b => if a < b then b else a) a ∈ ns) ∧ a ≤ ns.foldl (fun a b => if a < b then b else a) a ∧ ∀ y ∈ ns, y ≤ ns.foldl (fun a b => if a < b then b else a) a
  | [], a => ⟨.inl rfl, Int.le_refl _, fun y h => by cases h⟩
  | n :: ns, a => by
    obtain ⟨h1, h2, h3⟩ := foldMax ns (if a < n then n else a)
    rw [List.foldl_cons]
    refine ⟨?_, ?_, fun y hy => ?_⟩
    · rcases h1 with e | e
      · rw [e]
        by_cases c : a < n
        · rw [if_pos c]; exact .inr List.mem_cons_self
        · rw [if_neg c]; exact .inl rfl
      · exact .inr (List.mem_cons_of_mem _ e)
    · refine Int.le_trans ?_ h2
      by_cases c : a < n
      · rw [if_pos c]; omega
      · rw [if_neg c]; omega
    · rcases List.mem_cons.mp hy with e | e
      · subst e
        refine Int.le_trans ?_ h2
        by_cases c : a < y
        · rw [if_pos c]; omega
        · rw [if_neg c]; omega
      · exact h3 y e
theorem minI_mem {ns : List Int} (h : ns ≠ []) : minI ns ∈ ns := by
  cases ns with
  | nil => exact absurd rfl h
  | cons n ns =>
    rcases (foldMin ns n).1 with e | e
    · show ns.foldl _ n ∈ _; rw [e]; exact List.mem_cons_self
    · exact List.mem_cons_of_mem _ e
theorem minI_le {ns : List Int} {y : Int} (h : y ∈ ns) : minI ns ≤ y := by
  cases ns with
  | nil => cases h
  | cons n ns =>
    rcases List.mem_cons.mp h with e | e
    · subst e; exact (foldMin ns y).2.1
    · exact (foldMin ns n).2.2 y e
theorem maxI_mem {ns : List Int} (h : ns ≠ []) : maxI ns ∈ ns := by
  cases ns with
  | nil => exact absurd rfl h
  | cons n ns =>
    rcases (foldMax ns n).1 with e | e
    · show ns.foldl _ n ∈ _; rw [e]; exact List.mem_cons_self
    · exact List.mem_cons_of_mem _ e
theorem maxI_ge {ns : List Int} {y : Int} (h : y ∈ ns) : y ≤ maxI ns := by
  cases ns with
  | nil => cases h
  | cons n ns =>
    rcases List.mem_cons.mp h with e | e
    · subst e; exact (foldMax ns y).2.1
    · exact (foldMax ns n).2.2 y e
theorem minI_one {ns : List Int} {m : Int} (h1 : m ∈ ns) (h2 : ∀ y, y ∈ ns → m ≤ y) : m = minI ns :=
  Int.le_antisymm (h2 _ (minI_mem fun e => by subst e; cases h1)) (minI_le h1)
theorem maxI_one {ns : List Int} {m : Int} (h1 : m ∈ ns) (h2 : ∀ y, y ∈ ns → y ≤ m) : m = maxI ns :=
  Int.le_antisymm (maxI_ge h1) (h2 _ (maxI_mem fun e => by subst e; cases h1))
def lstInts : D → Option (List Int)
  | .lst l => intsOf l
  | .scr ns => some ns
  | _ => none
theorem lstInts_v {x : V} {a : D} {ns : List Int} (s : Same F H) (hx : DV K F H x a) (e : lstInts a = some ns) : ∃ l, x = .ref l ∧ SqL K H l (ns.map V.int) := by
  cases a <;> simp only [lstInts] at e <;> first | (cases e; done) | skip
  · obtain ⟨l, xs, rfl, q1, r1⟩ := hx.lst s
    rw [intsOf_eq e] at r1
    have e2 := r1.ints
    subst e2
    exact ⟨l, rfl, .of q1⟩
  · cases e
    exact hx.scr s
def dMin (d : D) : Out R := match lstInts d with
  | some ns => if 0 < ns.length then cI (minI ns) else .st
  | none => .st
def dMax (d : D) : Out R := match lstInts d with
  | some ns => if 0 < ns.length then cI (maxI ns) else .st
  | none => .st
theorem o1_min : Op1 K (fun x => rMin K [x]) dMin := by
  intro F H x a Q s hx h
  unfold dMin at h
  cases e : lstInts a with
  | none => rw [e] at h; exact h.elim
  | some ns =>
    rw [e] at h
    obtain ⟨c, h⟩ := if_some h
    obtain ⟨l, rfl, hq⟩ := lstInts_v s hx e
    refine ⟨l, ns, rfl, hq, c, fun m h1 h2 => ?_⟩
    rw [minI_one h1 h2]
    exact okV_cl s h (.int _)
theorem o1_max : Op1 K (fun x => rMax K [x]) dMax := by
  intro F H x a Q s hx h
  unfold dMax at h
  cases e : lstInts a with
  | none => rw [e] at h; exact h.elim
  | some ns =>
    rw [e] at h
    obtain ⟨c, h⟩ := if_some h
    obtain ⟨l, rfl, hq⟩ := lstInts_v s hx e
    refine ⟨l, ns, rfl, hq, c, fun m h1 h2 => ?_⟩
    rw [maxI_one h1 h2]
    exact okV_cl s h (.int _)
theorem n_min : ∀ a, noEx (dMin a) := by
  intro a; unfold dMin cI; repeat' (first | trivial | split)
theorem n_max : ∀ a, noEx (dMax a) := by
  intro a; unfold dMax cI; repeat' (first | trivial | split)
theorem cr_minX (hc : X.calm = true) : CallR X (.builtin "min") (rMin X.K) := cr_min hc
theorem cr_maxX (hc : X.calm = true) : CallR X (.builtin "max") (rMax X.K) := cr_max hc
/-! ### sorted of a list of whole numbers -/
def insL (x : Int) : List Int → List Int
  | [] => [x]
  | y :: r => if x ≤ y then x :: y :: r else y :: insL x r
def sortI : List Int → List Int
  | [] => []
  | x :: r => insL x (sortI r)
theorem perm_insL {x : Int} : ∀ {l : List Int}, (insL x l).Perm (x :: l)
  | [] => .refl _
  | y :: r => by
    unfold insL
    by_cases c : x ≤ y
    · rw [if_pos c]
    · rw [if_neg c]
      exact ((perm_insL (l := r)).cons y).trans (.swap x y r)
theorem perm_sortI : ∀ {l : List Int}, (sortI l).Perm l
  | [] => .refl _
  | x :: r => by unfold sortI; exact perm_insL.trans (perm_sortI.cons x)
theorem up_insL {x : Int} : ∀ {l : List Int}, l.Pairwise (· ≤ ·) → (insL x l).Pairwise (· ≤ ·)
  | [], _ => by simp [insL]
  | y :: r, h => by
    obtain ⟨a, b⟩ := List.pairwise_cons.mp h
    unfold insL
    by_cases c : x ≤ y
    · rw [if_pos c]
      refine List.pairwise_cons.mpr ⟨fun z hz => ?_, h⟩
      rcases List.mem_cons.mp hz with e | hz
      · omega
      · have := a z hz; omega
    · rw [if_neg c]
      refine List.pairwise_cons.mpr ⟨fun z hz => ?_, up_insL b⟩
      rcases List.mem_cons.mp ((perm_insL (l := r)).mem_iff.mp hz) with e | hz
      · omega
      · exact a z hz
theorem up_sortI : ∀ (l : List Int), (sortI l).Pairwise (· ≤ ·)
  | [] => by simp [sortI]
  | x :: r => by unfold sortI; exact up_insL (up_sortI r)
/-- two sorted lists of the same things are one -/
theorem sort_one : ∀ {l m : List Int}, l.Pairwise (· ≤ ·) → m.Pairwise (· ≤ ·) → l.Perm m → l = m
  | [], m, _, _, h => (List.nil_perm.mp h).symm
  | x :: l, [], _, _, h => (by have := h.length_eq; simp at this)
  | x :: l, y :: m, hl, hm, h => by
    obtain ⟨a, b⟩ := List.pairwise_cons.mp hl
    obtain ⟨c, d⟩ := List.pairwise_cons.mp hm
    have e : x = y := by
      have h1 : x ≤ y := by
        rcases List.mem_cons.mp (h.mem_iff.mpr List.mem_cons_self) with e | e
        · omega
        · exact a y e
      have h2 : y ≤ x := by
        rcases List.mem_cons.mp (h.mem_iff.mp List.mem_cons_self) with e | e
        · omega
        · exact c x e
      omega
    subst e
    rw [sort_one b d ((List.perm_cons x).mp h)]
def dSorted (d : D) : Out R := match lstInts d with
  | some ns => oD (.lst ((sortI ns).map D.int))
  | none => .st
theorem o1_sorted : Op1 K (fun x => rSortedI K [x]) dSorted := by
  intro F H x a Q s hx h
  unfold dSorted at h
  cases e : lstInts a with
  | none => rw [e] at h; exact h.elim
  | some ns =>
    rw [e] at h
    obtain ⟨l, rfl, hq⟩ := lstInts_v s hx e
    refine ⟨l, ns, rfl, hq, fun ns' p pm up hp => ?_⟩
    have e2 : ns' = sortI ns := sort_one up (up_sortI ns) (pm.trans perm_sortI.symm)
    subst e2
    exact okV_newL s h (.of_ints _) p hp
theorem n_sorted : ∀ a, noEx (dSorted a) := by
  intro a; unfold dSorted oD; repeat' (first | trivial | split)
theorem cr_sortedX (_ : X.calm = true) : CallR X (.builtin "sorted") (rSortedI X.K) := cr_sortedI
/-! ### str of a whole number -/
def dStr : D → Out R
  | .int i => if i.natAbs.log2 < 1920 then .ok (.cl (.str (toString i))) else .st
  | _ => .st
theorem o1_str : Op1 K (fun x H Q => ∃ i, [x] = [V.int i] ∧ i.natAbs.log2 < 1920 ∧ Q (.str (toString i)) H) dStr := by
  intro F H x a Q s hx h
  cases a <;> first | exact (False.elim h) | skip
  obtain ⟨c, h⟩ := if_some h
  have e := hx.int
  subst e
  exact ⟨_, rfl, c, okV_cl s h (.str _)⟩
theorem n_str : ∀ a, noEx (dStr a) := by
  intro a; unfold dStr; repeat' (first | trivial | split)
/-! ### xs[::-1] -/
theorem rev_places (n : Nat) : Builtin.Slice.slicePlaces ((n : Int) - 1) (-1) (-1) = n := by
  unfold Builtin.Slice.slicePlaces
  have h1 : ¬ ((-1 : Int) > 0) := by omega
  simp only [h1, if_false]
  have e : (-(-1 : Int)) = 1 := by omega
  simp only [e, Int.ediv_one]
  split <;> omega
theorem rev_adjust (n : Nat) : Builtin.Slice.sliceAdjust none none (-1) (n : Int) = ((n : Int) - 1, -1) := by
  unfold Builtin.Slice.sliceAdjust
  have h1 : ((-1 : Int) < 0) := by omega
  simp only [h1, if_true]
theorem fm_some {f : Nat → Option Value} {g : Nat → Value} : ∀ (l : List Nat), (∀ m ∈ l, f m = some (g m)) → l.filterMap f = l.map g
  | [], _ => rfl
  | x :: l, h => by
    rw [List.filterMap_cons, h x List.mem_cons_self, fm_some l fun m hm => h m (List.mem_cons_of_mem _ hm)]
    rfl
theorem rev_pick (xs : Array Value) : ((List.range xs.size).filterMap fun (m : Nat) => xs[(((xs.size : Int) - 1) + (m : Int) * (-1)).toNat]?).toArray = xs.toList.reverse.toArray := by
  rw [fm_some (g := fun m => xs.toList.reverse[m]?.getD .none) _ fun m hm => by
    have hm := List.mem_range.mp hm
    have h3 : (((xs.size : Int) - 1) + (m : Int) * (-1)).toNat = xs.size - 1 - m := by omega
    have h4 : xs.size - 1 - m < xs.size := by omega
    rw [h3, List.getElem?_reverse (by simpa using hm)]
    simp only [Array.length_toList, Array.getElem?_toList]
    rw [Array.getElem?_eq_getElem h4]
    rfl]
  congr 1
  apply List.ext_getElem?
  intro k
  rw [List.getElem?_map]
  by_cases hk : k < xs.size
  · rw [List.getElem?_range hk]
    have h5 : k < xs.toList.reverse.length := by simpa using hk
    rw [List.getElem?_eq_getElem h5]
    show some (xs.toList.reverse[k]?.getD .none) = _
    rw [List.getElem?_eq_getElem h5]
    rfl
  · rw [List.getElem?_eq_none (by simpa using hk), List.getElem?_eq_none (by simpa using hk)]
    rfl
theorem getItem_tuple_rev {prog : Program} {w : World} {A : Around} {E : Value → Shared → Prop} {s : Shared} {t sl : Addr} {items : Array Value} {vl vu vs : Value} {Q : Value → Shared → Prop} (ht : IsTup s.heap t items) (hs : s.heap.IsSliceOf sl vl vu vs) (pl : IsPart vl none) (pu : IsPart vu none) (ps : IsPart vs (some (-1)))
    (h : Q (.ref s.heap.objs.size) { s with heap := s.heap.push { cls := .type "tuple", data := .seq items.toList.reverse.toArray } })
    (hsz : items.size ≤ sizeLine) : wpAny (model prog w) A (getItem (.ref t) (.ref sl)) Q E s := by
  have htake : sizeOk (.seq items.toList.reverse.toArray) := by
    show items.toList.reverse.toArray.size ≤ sizeLine
    rw [List.size_toArray, List.length_reverse, Array.length_toList]
    omega
  obtain ⟨os, hos, hcs, hds⟩ := id hs
  have hTs : s.TypeIs (.ref sl) "slice" := ⟨os, hos, hcs⟩
  unfold getItem
  try with_reducible refine wpAny_holding ?_
  first | refine wpAny_bind (wpAny_pure ?_) | skip
  refine wpAny_bind (wpAny_sequenceKey ht.typeIs (by decide) ?_)
  refine wpAny_bind (wpAny_callSpecial?_slot (name := Str.ofString "__getitem__") ht.typeIs PyProof.Rows.slot_tuple_getitem
    (wpAny_call_entry PyProof.Rows.slot_tuple_getitem ht.typeIs entry_tuple_getitem ?_ (args_tuple_getitem _ _)))
  show wpAny _ _ (Builtin.Tuple.tupleItemsOf (.ref t) >>= _) _ _ s
  refine wpAny_bind (tupleItemsOf_ ht ?_)
  refine wpAny_bind (wpAny_typeOf hTs ?_)
  rw [if_pos (by decide)]
  refine wpAny_bind (m := Builtin.Slice.sliceApplied (.ref sl) (pure (items.size : Int))) ?_
  · unfold Builtin.Slice.sliceApplied Builtin.Slice.sliceFields
    refine wpAny_bind (wpAny_bind (wpAny_field hos hds (x := vl) rfl (wpAny_bind (wpAny_field hos hds (x := vu) rfl (wpAny_bind (wpAny_field hos hds (x := vs) rfl (wpAny_pure ?_)))))))
    refine wpAny_bind (HT.slicePart_ ps ?_)
    show wpAny _ _ (if ((-1 : Int) == 0) = true then _ else _) _ _ s
    rw [if_neg (by decide)]
    refine wpAny_bind (HT.slicePart_ pl (wpAny_bind (HT.slicePart_ pu (wpAny_bind (wpAny_pure ?_)))))
    show wpAny _ _ (match Builtin.Slice.sliceAdjust none none (-1) (items.size : Int) with | (lo, hi) => pure (lo, (-1 : Int), Builtin.Slice.slicePlaces lo hi (-1))) _ _ s
    rw [rev_adjust]
    show wpAny _ _ (pure ((items.size : Int) - 1, (-1 : Int), Builtin.Slice.slicePlaces ((items.size : Int) - 1) (-1) (-1))) _ _ s
    rw [rev_places]
    refine wpAny_pure ?_
    have hno : ¬ ((((items.size : Int) - 1) == 0 && (-1 : Int) == 1 && items.size == items.size) = true) := by
      intro q
      rw [Bool.and_eq_true, Bool.and_eq_true] at q
      exact absurd q.1.2 (by decide)
    show wpAny _ _ (if (((items.size : Int) - 1) == 0 && (-1 : Int) == 1 && items.size == items.size) = true then _ else _) _ _ s
    rw [if_neg hno, rev_pick]
    first
      | exact wpAny_bind (m := Builtin.Tuple.tupleExact _) (wpAny_newObj_type (wpAny_pure ⟨_, rfl, wpAny_pure h⟩) htake)
      | exact wpAny_bind (m := Builtin.Tuple.tupleExact _) (wpAny_newObj_type (wpAny_bind (wpAny_pure (wpAny_pure ⟨_, rfl, wpAny_pure h⟩))) htake)
      | exact wpAny_bind (wpAny_bind (m := Builtin.Tuple.tupleExact _) (wpAny_newObj_type (wpAny_pure (wpAny_pure ⟨_, rfl, wpAny_pure h⟩)) htake))
      | exact wpAny_bind (wpAny_bind (m := Builtin.Tuple.tupleExact _) (wpAny_newObj_type (wpAny_pure ⟨_, rfl, wpAny_pure h⟩) htake))
theorem sl_rev {x : V} {v vl vu vs : Value} {sl : Addr} {pins : List (Addr × Obj)} {s : Shared} {σ : Sg} {xs : List V} {a : Addr} (I : L2.Inv X pins σ H s) (rx : RelV x v) (ex : x = .ref a) (hs : s.heap.IsSliceOf sl vl vu vs) (pl : IsPart vl none) (pu : IsPart vu none) (ps : IsPart vs (some (-1)))
    (h : (SqL X.K H a xs ∧ ∀ p, H p = none → Q (.ref p) (upd H p (.lst xs.reverse))) ∨ (SqT X.K H a xs ∧ NewT H Q xs.reverse)) :
    ∃ T id, typeLookup (.type T) "__getitem__" = pure (some (.builtin id)) ∧ s.TypeIs v T ∧ wpAny (model X.prog X.w) X.A (getItem v (.ref sl)) (EP X pins σ Q) X.xe s := by
  subst ex
  cases rx
  rcases h with ⟨hx, q⟩ | ⟨hx, q⟩
  · obtain ⟨its, r, ht, hz⟩ := I.list hx
    have hlen := r.length
    refine ⟨"list", _, PySem.slot_list_getitem.lookup, ht.isList.typeIs, ?_⟩
    refine wpAny_getItem_list_slice ht.isList hs pl pu ps (by decide) ?_ (by rw [List.size_toArray]; omega)
    rw [PySem.W.krv_pick]
    refine ⟨.ref _, _, I.laid (t' := s.toks) (o := .lst xs.reverse) (fun b ob q => Heap.get?_push_of_some _ q) (Nat.le_refl _) ?_, rfl, q _ (I.hok.fresh (Nat.le_refl _))⟩
    exact ⟨by rw [List.length_reverse]; exact hz, _, 0, r.reverse, Heap.get?_push_size _ rfl⟩
  · obtain ⟨its, r, ht, hz⟩ := I.tuple hx
    have hlen := r.length
    refine ⟨"tuple", _, PyProof.Rows.slot_tuple_getitem.lookup, ht.typeIs, ?_⟩
    refine getItem_tuple_rev ht hs pl pu ps ?_ (by rw [List.size_toArray]; omega)
    refine ⟨.ref _, _, I.laid (t' := s.toks) (o := .frz { cls := .type "tuple", data := .seq its.toArray.toList.reverse.toArray } (.tup xs.reverse)) (fun b ob q => Heap.get?_push_of_some _ q) (Nat.le_refl _) ?_, rfl, q _ _ rfl (I.hok.fresh (Nat.le_refl _))⟩
    exact ⟨Heap.get?_push_size _ rfl, by rw [List.length_reverse]; exact hz, _, r.reverse, IsTup.new _ _⟩
def rRev (K : PySem.W.Frag) : V → Hp → VK → Prop := fun x H Q => ∃ a xs, x = .ref a ∧ ((SqL K H a xs ∧ ∀ p, H p = none → Q (.ref p) (upd H p (.lst xs.reverse))) ∨ (SqT K H a xs ∧ NewT H Q xs.reverse))
theorem pe_rev {e : Expr} {te : TE} {k : Nat} {p1 p2 p3 pos : Pos} (he : PE X e te) : PE X (.Subscript e (.Slice none none (some (.UnaryOp .USub (.Constant (.int 1) k p1) p2)) p3) pos) (fun σ H Q => te σ H fun x H1 => rRev X.K x H1 Q) := by
  refine ⟨fun pins s σ H Q I h => ?_⟩
  refine Subscript_ (thn (he.run pins s σ H _ I h) fun v s1 ⟨x, H1, I1, r1, q1⟩ => ?_)
  obtain ⟨a, xs, ex, q⟩ := q1
  have hst : PO X (some (.UnaryOp .USub (.Constant (.int 1) k p1) p2)) (tPart (tUn (rU fun i => .int (-i)) (tC (.int 1)))) := po_some (pe_un un_neg pe_int)
  refine wpAny_Slice (thn (po_none.run pins s1 σ H1 (fun o H2 => o = none ∧ H2 = H1) I1 ⟨rfl, rfl⟩) fun vl s2 ⟨l, H2, I2, pl, el, e2⟩ => ?_)
  subst el e2
  refine thn (po_none.run pins s2 σ H2 (fun o H3 => o = none ∧ H3 = H2) I2 ⟨rfl, rfl⟩) fun vu s3 ⟨u, H3, I3, pu, eu, e3⟩ => ?_
  subst eu e3
  refine thn (hst.run pins s3 σ H3 (fun o H4 => o = some (-1) ∧ H4 = H3) I3 ⟨1, rfl, -1, rfl, rfl, rfl⟩) fun vs s4 ⟨o, H4, I4, ps, eo, e4⟩ => ?_
  subst eo e4
  have I5 : L2.Inv X pins σ H4 { s4 with heap := s4.heap.push { cls := .type "slice", data := .fields #[vl, vu, vs] } } := I4.kept (t' := s4.toks) fun b ob q => Heap.get?_push_of_some _ q
  obtain ⟨T, id, hT, ht, hg⟩ := sl_rev (Q := Q) (sl := s4.heap.objs.size) I5 r1 ex (Heap.IsSliceOf.new _ vl vu vs) pl pu ps q
  show wpAny (model X.prog X.w) X.A (subscriptTail e (.Slice none none (some (.UnaryOp .USub (.Constant (.int 1) k p1) p2)) p3) v (.ref s4.heap.objs.size)) (EP X pins σ Q) X.xe { s4 with heap := s4.heap.push { cls := .type "slice", data := .fields #[vl, vu, vs] } }
  exact tail_any (ops := [v, .ref s4.heap.objs.size]) ht hT hg (by with_unfolding_all rfl)
theorem DRs.rev : ∀ {xs : List V} {ds : List D}, DRs K F xs ds → DRs K F xs.reverse ds.reverse
  | _, _, .nil => .nil
  | _, _, .cons h r => by rw [List.reverse_cons, List.reverse_cons]; exact r.rev.app (.cons h .nil)
def dRev : D → Out R
  | .lst l => oD (.lst l.reverse)
  | .tup l => cD (.tup l.reverse)
  | .scr ns => oD (.lst (ns.reverse.map D.int))
  | _ => .st
theorem n_rev : ∀ a, noEx (dRev a) := by
  intro a; unfold dRev cD oD; repeat' (first | trivial | split)
theorem o1_rev : Op1 K (rRev K) dRev := by
  intro F H x a Q s hx h
  cases a <;> first | exact (False.elim h) | skip
  · obtain ⟨l, xs, rfl, q1, r1⟩ := hx.tup s
    exact ⟨_, _, rfl, .inr ⟨q1, okV_new s h r1.rev⟩⟩
  · obtain ⟨l, xs, rfl, q1, r1⟩ := hx.lst s
    exact ⟨_, _, rfl, .inl ⟨.of q1, okV_newL s h r1.rev⟩⟩
  · obtain ⟨l, rfl, q1⟩ := hx.scr s
    refine ⟨_, _, rfl, .inl ⟨q1, ?_⟩⟩
    rw [← List.map_reverse]
    exact okV_newL s h (.of_ints _)
theorem ev_rev {e : Expr} {f : Sx} {k : Nat} {p1 p2 p3 : Pos} (he : EV X W e f) : EV X W (.Subscript e (.Slice none none (some (.UnaryOp .USub (.Constant (.int 1) k p1) p2)) p3) pos) (e1 dRev f) :=
  (pe_rev he).imp fun σ H Q h => t1_of o1_rev n_rev h
/-! ### range objects -/
/-- the numbers of range(i, j, c) -/
def rangeC (i j c : Int) : List Int := (List.range (Builtin.Range.rangeSize i j c).toNat).map fun k : Nat => i + (k : Int) * c
def okRg (i j c : Int) : Bool := decide (c ≠ 0) && decide (c.natAbs < 1073741824) && Builtin.Range.small i j c && decide ((Builtin.Range.rangeSize i j c).toNat ≤ 16777216)
/-- range's arguments -/
def rgOf : List D → Option (Int × Int × Int)
  | [.int j] => some (0, j, 1)
  | [.int i, .int j] => some (i, j, 1)
  | [.int i, .int j, .int c] => some (i, j, c)
  | _ => none
theorem okRg_iff {i j c : Int} (h : okRg i j c = true) : RgC i j c (Builtin.Range.rangeSize i j c).toNat ∧ (Builtin.Range.rangeSize i j c).toNat ≤ 16777216 := by
  unfold okRg at h
  rw [Bool.and_eq_true, Bool.and_eq_true, Bool.and_eq_true, decide_eq_true_eq, decide_eq_true_eq, decide_eq_true_eq] at h
  exact ⟨⟨h.1.1.1, h.1.1.2, h.1.2, PyProof.Rows.rangeSize_toNat ..⟩, h.2⟩
/-- an expression that tells a range object -/
def PRc (X : Cx) (e : Expr) (t : Sg → Hp → (Int → Int → Int → Hp → Prop) → Prop) : Prop :=
  ∀ (pins : List (Addr × Obj)) (s : Shared) (σ : Sg) (H : Hp) (Q : Int → Int → Int → Hp → Prop), L2.Inv X pins σ H s → t σ H Q →
    wpAny (model X.prog X.w) X.A (eval e X.env) (fun x s' => ∃ r a b c t u v H', x = .ref r ∧ IsRange s'.heap r a b c t u v ∧ L2.Inv X pins σ H' s' ∧ Q a b c H') X.xe s
def rgArgs : List V → Option (Int × Int × Int)
  | [.int j] => some (0, j, 1)
  | [.int i, .int j] => some (i, j, 1)
  | [.int i, .int j, .int c] => some (i, j, c)
  | _ => none
def tRgc (ta : TA) : Sg → Hp → (Int → Int → Int → Hp → Prop) → Prop := fun σ H Q => ta σ H fun vs H1 => ∃ i j c, rgArgs vs = some (i, j, c) ∧ okRg i j c = true ∧ Q i j c H1
theorem prc {es : List Expr} {ta : TA} {p pos : Pos} (hg : Gl X "range") (hm : X.mg "range" = none) (ha : PA X es ta) {e0 : Expr} {es' : List Expr} (hes : es = e0 :: es')
    (hs : starEach es X.env = (false, eval e0 X.env) :: starEach es' X.env) (hpl : (backTo pos (starEach es' X.env)).any (·.1) = false) : PRc X (.Call (.Name "range" p) es [] pos) (tRgc ta) := by
  intro pins s σ H Q I h
  subst hes
  refine Call_ (ld_blt I hg hm boot_range (PyProof.Rows.callWith_type1 (thn (ha.run pos pins s σ H _ I h) fun us s1 ⟨vs, H1, I1, r1, q1⟩ => ?_) hs hpl))
  obtain ⟨i, j, c, e, ok, q⟩ := q1
  have kk := (okRg_iff ok).1
  unfold rgArgs at e
  split at e
  · cases e
    cases r1 with
    | cons r rr =>
      cases rr
      obtain ⟨t, rfl⟩ := r
      exact call_range_1 ⟨_, 0, _, 1, _, _, _, H1, rfl, IsRange.new _ _ _ _ _ _ _, I1.kept fun b u e => Heap.get?_push_of_some _ e, q⟩
  · cases e
    cases r1 with
    | cons r rr =>
      cases rr with
      | cons r' rr =>
        cases rr
        obtain ⟨t, rfl⟩ := r
        obtain ⟨t', rfl⟩ := r'
        exact call_range_2 ⟨_, _, _, 1, _, _, _, H1, rfl, IsRange.new _ _ _ _ _ _ _, I1.kept fun b u e => Heap.get?_push_of_some _ e, q⟩
  · cases e
    cases r1 with
    | cons r rr =>
      cases rr with
      | cons r' rr =>
        cases rr with
        | cons r'' rr =>
          cases rr
          obtain ⟨t, rfl⟩ := r
          obtain ⟨t', rfl⟩ := r'
          obtain ⟨t'', rfl⟩ := r''
          exact call_range_3 kk.1 ⟨_, _, _, _, _, _, _, H1, rfl, IsRange.new _ _ _ _ _ _ _, I1.kept fun b u e => Heap.get?_push_of_some _ e, q⟩ (.inl (PyProof.noPylong_small kk.2.1))
  · cases e
theorem vals_rgc {i c : Int} {n : Nat} {acc : Array Value} (h : ItemsOf (fun k v => ∃ t, v = .int (i + k * c) t) acc n) : Vals (((List.range n).map fun k : Nat => i + (k : Int) * c).map V.int) acc.toList := by
  have e : acc.toList.length = n := by rw [Array.length_toList]; exact h.1
  rw [← e, List.map_map]
  refine vals_of_get acc.toList _ fun j u hj => ?_
  obtain ⟨t, rfl⟩ := h.2 j u (by rw [← hj, Array.getElem?_toList])
  exact ⟨t, rfl⟩
theorem pe_listRgc {e : Expr} {te : Sg → Hp → (Int → Int → Int → Hp → Prop) → Prop} {p pos : Pos} (hc : X.calm = true) (hg : Gl X "list") (hm : X.mg "list" = none) (he : PRc X e te) (na : starEach [e] X.env = (false, eval e X.env) :: starEach [] X.env := by rfl) :
    PE X (.Call (.Name "list" p) [e] [] pos) (fun σ H Q => te σ H fun a b c H1 => okRg a b c = true ∧ ∀ q, H1 q = none → Q (.ref q) (upd H1 q (.lst ((rangeC a b c).map V.int)))) := by
  refine ⟨fun pins s σ H Q I h => ?_⟩
  refine Call_ (ld_blt I hg hm boot_list (PyProof.Rows.callWith_type1 (args_cons (thn (he pins s σ H _ I h) fun x s1 ⟨r, a, b, c, t, u, v, H1, ex, hr, I1, ok, q⟩ => args_nil ?_) na) na))
  subst ex
  obtain ⟨⟨k0, k1, k2, k3⟩, k4⟩ := okRg_iff ok
  refine call_list_range (n := (Builtin.Range.rangeSize a b c).toNat) (I1.ok.hd hc) hr k2 k3 k4 fun h' tk acc c' hk e' hi => ?_
  refine ⟨.ref s1.heap.objs.size, upd H1 s1.heap.objs.size (.lst ((rangeC a b c).map V.int)), I1.laid hk (Nat.le_refl _) (show ObjOk X.prog X.w _ _ _ (.lst ((rangeC a b c).map V.int)) from ⟨?_, acc.toList, c', vals_rgc hi, ?_⟩), rfl, q _ (I1.hok.fresh (Nat.le_refl _))⟩
  · unfold rangeC; rw [List.length_map, List.length_map, List.length_range, sizeLine_eq]; exact k4
  · rw [Array.toArray_toList]; exact e'
theorem pe_tupRgc {e : Expr} {te : Sg → Hp → (Int → Int → Int → Hp → Prop) → Prop} {p pos : Pos} (hc : X.calm = true) (hg : Gl X "tuple") (hm : X.mg "tuple" = none) (he : PRc X e te) (na : starEach [e] X.env = (false, eval e X.env) :: starEach [] X.env := by rfl) :
    PE X (.Call (.Name "tuple" p) [e] [] pos) (fun σ H Q => te σ H fun a b c H1 => okRg a b c = true ∧ NewT H1 Q ((rangeC a b c).map V.int)) := by
  refine ⟨fun pins s σ H Q I h => ?_⟩
  refine Call_ (ld_blt I hg hm boot_tuple (PyProof.Rows.callWith_type1 (args_cons (thn (he pins s σ H _ I h) fun x s1 ⟨r, a, b, c, t, u, v, H1, ex, hr, I1, ok, q⟩ => args_nil ?_) na) na))
  subst ex
  obtain ⟨⟨k0, k1, k2, k3⟩, k4⟩ := okRg_iff ok
  refine call_tuple_range (n := (Builtin.Range.rangeSize a b c).toNat) (I1.ok.hd hc) hr k2 k3 k4 fun h' tk acc hk hi => ?_
  have I2 : L2.Inv X pins σ H1 { s1 with heap := h', toks := tk } := I1.kept hk
  refine ⟨.ref h'.objs.size, upd H1 h'.objs.size (.frz { cls := .type "tuple", data := .seq acc } (.tup ((rangeC a b c).map V.int))), I2.laid (t' := tk) (fun c o e => Heap.get?_push_of_some _ e) (Nat.le_refl _) (show ObjOk X.prog X.w _ _ _ (.frz { cls := .type "tuple", data := .seq acc } (.tup ((rangeC a b c).map V.int))) from ⟨Heap.get?_push_size _ rfl, ?_, acc.toList, vals_rgc hi, ?_⟩), rfl, q _ _ rfl (I2.hok.fresh (Nat.le_refl _))⟩
  · unfold rangeC; rw [List.length_map, List.length_map, List.length_range, sizeLine_eq]; exact k4
  · rw [Array.toArray_toList]; exact IsTup.new _ _
def dLstRg (ds : List D) : Out R := match rgOf ds with
  | some (i, j, c) => if okRg i j c then oD (.lst ((rangeC i j c).map D.int)) else .st
  | none => .st
def dTupRg (ds : List D) : Out R := match rgOf ds with
  | some (i, j, c) => if okRg i j c then cD (.tup ((rangeC i j c).map D.int)) else .st
  | none => .st
def eA (φ : List D → Out R) (fs : List Sx) : Sx := fun env => mapO φ (evArgs fs env)
theorem rg_args {vs : List V} {ds : List D} {z : Int × Int × Int} (r : DRs K F vs ds) (h : rgOf ds = some z) : rgArgs vs = some z := by
  unfold rgOf at h
  split at h <;> cases h
  · cases r with
    | cons r1 r => cases r; cases r1; rfl
  · cases r with
    | cons r1 r =>
      cases r with
      | cons r2 r => cases r; cases r1; cases r2; rfl
  · cases r with
    | cons r1 r =>
      cases r with
      | cons r2 r =>
        cases r with
        | cons r3 r => cases r; cases r1; cases r2; cases r3; rfl
/-- a call's arguments by values -/
theorem tA_of {φ : List D → Out R} {fs : List Sx} {r : List V → Hp → VK → Prop} (o : ∀ F H vs ds Q, Same F H → DRs K F vs ds → okV K F H Q (φ ds) → r vs H Q) (n : ∀ ds, noEx (φ ds)) {σ : Sg} {H : Hp} {Q : VK} (h : tE K mg W (eA φ fs) σ H Q) : tAs K mg W fs σ H fun vs H1 => r vs H1 Q := by
  obtain ⟨F, env, rl, h⟩ := h
  refine ⟨F, env, rl, ?_⟩
  unfold eA at h
  cases e : evArgs fs env with
  | ok ds =>
    rw [e] at h
    intro F1 H1 vs x rs
    exact o F1 H1 vs ds Q x.fh rs (okE_okV x (n _) h)
  | ex c => rw [e] at h; exact h
  | st => rw [e] at h; exact h
theorem ev_lstRg {es es' : List Expr} {e0 : Expr} {fs : List Sx} {p p2 pos2 : Pos} (hc : X.calm = true) (hg : Gl X "list") (hm : X.mg "list" = none) (hg2 : Gl X "range") (hm2 : X.mg "range" = none) (ha : AV X W es fs) (hes : es = e0 :: es' := by rfl)
    (hs : starEach es X.env = (false, eval e0 X.env) :: starEach es' X.env := by rfl) (hpl : (backTo pos2 (starEach es' X.env)).any (·.1) = false := by rfl)
    (na : starEach [.Call (.Name "range" p2) es [] pos2] X.env = (false, eval (.Call (.Name "range" p2) es [] pos2) X.env) :: starEach [] X.env := by rfl) : EV X W (.Call (.Name "list" p) [.Call (.Name "range" p2) es [] pos2] [] pos) (eA dLstRg fs) :=
  (pe_listRgc hc hg hm (prc hg2 hm2 ha hes hs hpl) na).imp fun σ H Q h => tA_of (r := fun vs H1 Q => ∃ i j c, rgArgs vs = some (i, j, c) ∧ okRg i j c = true ∧ okRg i j c = true ∧ ∀ q, H1 q = none → Q (.ref q) (upd H1 q (.lst ((rangeC i j c).map V.int)))) (fun F H vs ds Q s r h => by
    unfold dLstRg at h
    cases e : rgOf ds with
    | none => rw [e] at h; exact h.elim
    | some z =>
      obtain ⟨i, j, c⟩ := z
      rw [e] at h
      obtain ⟨k, h⟩ := if_some h
      exact ⟨i, j, c, rg_args r e, k, k, okV_newL s h (.of_ints _)⟩) (fun ds => by unfold dLstRg oD; repeat' (first | trivial | split)) h
theorem ev_tupRg {es es' : List Expr} {e0 : Expr} {fs : List Sx} {p p2 pos2 : Pos} (hc : X.calm = true) (hg : Gl X "tuple") (hm : X.mg "tuple" = none) (hg2 : Gl X "range") (hm2 : X.mg "range" = none) (ha : AV X W es fs) (hes : es = e0 :: es' := by rfl)
    (hs : starEach es X.env = (false, eval e0 X.env) :: starEach es' X.env := by rfl) (hpl : (backTo pos2 (starEach es' X.env)).any (·.1) = false := by rfl)
    (na : starEach [.Call (.Name "range" p2) es [] pos2] X.env = (false, eval (.Call (.Name "range" p2) es [] pos2) X.env) :: starEach [] X.env := by rfl) : EV X W (.Call (.Name "tuple" p) [.Call (.Name "range" p2) es [] pos2] [] pos) (eA dTupRg fs) :=
  (pe_tupRgc hc hg hm (prc hg2 hm2 ha hes hs hpl) na).imp fun σ H Q h => tA_of (r := fun vs H1 Q => ∃ i j c, rgArgs vs = some (i, j, c) ∧ okRg i j c = true ∧ okRg i j c = true ∧ NewT H1 Q ((rangeC i j c).map V.int)) (fun F H vs ds Q s r h => by
    unfold dTupRg at h
    cases e : rgOf ds with
    | none => rw [e] at h; exact h.elim
    | some z =>
      obtain ⟨i, j, c⟩ := z
      rw [e] at h
      obtain ⟨k, h⟩ := if_some h
      exact ⟨i, j, c, rg_args r e, k, k, okV_new s h (.of_ints _)⟩) (fun ds => by unfold dTupRg cD; repeat' (first | trivial | split)) h
end
theorem blkOk_in {N N' : List Str} {sc sc' scope : Scope} {own : List (Str × Nat)} (hN : N' = N) (hs : sc' = sc) (h : blkC N sc scope own = true) : BlkOk N' sc' scope own := by
  subst hN hs
  exact blkOk_by h
end Fs

set_option maxHeartbeats 4000000
namespace Fs
open PySem PySem.Spec PyProof.Rows L2
section
variable {P : Program} {w : World} {B : Around} {E : Value → Shared → Prop} {s : Shared}
/-! ### set(d) of a dict whose keys are whole numbers -/
theorem above_le (n : Nat) : ∀ (fuel size : Nat), size ≤ max 8 (2 * n) → SetTable.sizeAbove.go n fuel size ≤ max 8 (2 * n)
  | 0, size, h => h
  | fuel + 1, size, h => by
    unfold SetTable.sizeAbove.go
    by_cases c : size ≤ n
    · rw [if_pos c]; exact above_le n fuel (size * 2) (by omega)
    · rw [if_neg c]; exact h
theorem above_fits {n : Nat} (h : n ≤ 1000000) : ¬ SetTable.sizeAbove n > sizeLine := by
  have := above_le n 64 8 (by omega)
  unfold SetTable.sizeAbove
  rw [sizeLine_eq]
  omega
theorem laid_empty (mask finger moves : Nat) (led plain : Bool) : SetTable.laid mask finger moves led plain #[] = some ({ mask, place := #[], dummies := #[], finger, led, moves, plain }, #[]) := by
  unfold SetTable.laid SetTable.layClean
  have e : (List.range (mask + 1)).filterMap (fun j => ((Array.replicate (mask + 1) (none : Option Nat)).getD j none).map (j, ·)) = [] := by
    rw [List.filterMap_eq_nil_iff]
    intro j _
    have : (Array.replicate (mask + 1) (none : Option Nat)).getD j none = none := by
      rw [Array.getD_eq_getD_getElem?]
      by_cases c : j < mask + 1
      · rw [Array.getElem?_replicate, if_pos c]; rfl
      · rw [Array.getElem?_replicate, if_neg c]; rfl
    rw [this]; rfl
  show (some (Array.replicate (mask + 1) (none : Option Nat))).bind _ = _
  show some _ = _
  simp only [e]
  rfl
theorem setRelay_empty {a : Addr} {o : Obj} {ep : Nat} {t : SetTable} {wanted : Nat} {Q : Unit → Shared → Prop} (ho : s.heap.get? a = some o) (hex : o.ExactSet) (hd : o.data = .set #[] ep t) (hf : t.fits 0 = true) (hw : wanted ≤ 1000000) (hl : w.params.followText "set-order" = true ∨ t.led = true)
    (hQ : ∀ h', Heap.SameBut a s.heap h' → SetR w h' a (fun _ => false) 0 → Q () { s with heap := h' }) : wpAny (model P w) B (setRelay a wanted) Q E s := by
  rw [L2.setRelay_eq]
  refine wpAny_bind (wpAny_setState_of ho hd hf ?_)
  dsimp only
  refine wp_if_neg (above_fits hw) ?_
  try refine wpAny_bind (wpAny_pure ?_)
  have e : t.relaid ((#[] : Array (Int × Value)).map (·.1)) wanted = some ({ mask := SetTable.sizeAbove wanted - 1, place := #[], dummies := #[], finger := t.finger, led := t.led, moves := t.movedTo (SetTable.sizeAbove wanted - 1), plain := t.plain }, #[]) := by
    unfold SetTable.relaid
    rw [Array.map_empty]
    exact laid_empty _ _ _ _ _
  rw [e]
  dsimp only
  refine wpAny_bind ?_
  refine wp_if_neg (by simp) ?_
  try refine wpAny_bind (wpAny_pure ?_)
  refine wpAny_pure ?_
  dsimp only
  refine wpAny_storeSet_of ho hd ?_ (by rw [sizeLine_eq]; simp)
  refine hQ _ (Heap.SameBut.update ..) ⟨_, #[], ep + 1, _, store_at ho hd, ⟨hex.1, hex.2.1, hex.2.2⟩, rfl, (fun e he => nomatch he), List.nodup_nil, (fun k => by simp), by decide, ?_, rfl, ?_, hl⟩
  · show (decide _ && decide _) = true
    simp [SetTable.fill]
  · exact List.Pairwise.nil
theorem key_int {K : KeyKind P w Key} (hK : ∀ k v, K.is (Sum.inl k) v = true → ∃ t, v = Value.int k t) (hH : ∀ k, K.hash (Sum.inl k) = hashInt k) {es : List DictEntry} {vs : List (Key × Value)} (h : Pairs K es vs) :
    ∀ {ns : List Int}, vs.map (·.1) = ns.map Sum.inl → (∀ e : DictEntry, e ∈ es → ∃ k, K.is k e.key = true ∧ e.hash = K.hash k) → es.length = ns.length ∧ ∀ (i : Nat) (e : DictEntry), es[i]? = some e → ∃ k t, ns[i]? = some k ∧ e.key = .int k t ∧ e.hash = hashInt k := by
  induction h with
  | nil =>
    intro ns e hk
    cases ns with
    | nil => exact ⟨rfl, fun i e h => by simp at h⟩
    | cons _ _ => cases e
  | @cons e0 kv es vs h1 h2 r ih =>
    intro ns e hk
    cases ns with
    | nil => cases e
    | cons k ns =>
      rw [List.map_cons, List.map_cons] at e
      obtain ⟨e1, e2⟩ := List.cons.inj e
      obtain ⟨q1, q2⟩ := ih e2 fun e he => hk e (List.mem_cons_of_mem _ he)
      refine ⟨by rw [List.length_cons, List.length_cons, q1], fun i e h => ?_⟩
      cases i with
      | zero =>
        have h : e0 = e := by simpa using h
        subst h
        rw [e1] at h1
        obtain ⟨k', hk1, hk2⟩ := hk _ List.mem_cons_self
        have ek : k' = Sum.inl k := K.inj _ _ _ hk1 h1
        obtain ⟨t, ht⟩ := hK _ _ h1
        exact ⟨k, t, rfl, ht, by rw [hk2, ek, hH]⟩
      | succ i => exact q2 i e (by simpa using h)
theorem setR_room {a : Addr} {o : Obj} {ep more : Nat} {t : SetTable} {Q : Unit → Shared → Prop} (ho : s.heap.get? a = some o) (hex : o.ExactSet) (hd : o.data = .set #[] ep t) (hf : t.fits 0 = true) (hp : t.place.size = 0) (hr : Ris t.place.toList) (hw : more ≤ 5000) (hl : w.params.followText "set-order" = true ∨ t.led = true)
    (hQ : ∀ h', Heap.SameBut a s.heap h' → SetR w h' a (fun _ => false) 0 → Q () { s with heap := h' }) : wpAny (model P w) B (setRoomFor a more) Q E s := by
  unfold setRoomFor
  refine wpAny_bind (wpAny_setState_of ho hd hf ?_)
  dsimp only
  unfold SetTable.roomFor
  split
  · rename_i wanted e
    split at e
    · cases e
      exact setRelay_empty ho hex hd hf (by omega) hl hQ
    · cases e
  · exact wpAny_pure (hQ s.heap (Heap.SameBut.refl a s.heap) ⟨o, #[], ep, t, ho, hex, hd, (fun e he => nomatch he), List.nodup_nil, (fun k => by simp), by decide, hf, rfl, hr, hl⟩)
theorem dict_not_set {l : Addr} {Q : Bool → Shared → Prop} (hT : s.TypeIs (.ref l) "dict") (h : Q false s) : wpAny (model P w) B (Builtin.Frozenset.isAnySet (.ref l)) Q E s := by
  have k1 := F.sub_dict_set
  have k2 := F.sub_dict_frozenset
  unfold Builtin.Frozenset.isAnySet
  refine wpAny_bind (wpAny_isInstance hT k1 ?_)
  first | exact wpAny_bind (wpAny_isInstance hT k2 (wpAny_pure h)) | exact wpAny_isInstance hT k2 h
theorem fill_dict {l : Addr} {vs : List (Key × Value)} {ns : List Int} {Q : Unit → Shared → Prop} (hn : (l == sysModules) = false) (hl : s.heap.DictOf (mixKind P w) l vs) (hi : vs.map (·.1) = ns.map Sum.inl) (hb : ns.length + 1 < scanBound)
    (h : ∀ s', FilledBy w s.heap s.heap.objs.size ns s s' → Q () s') : wpAny (model P w) B (Builtin.Frozenset.updateFrom "set.__init__" s.heap.objs.size (.ref l)) Q E { s with heap := s.heap.push (setNew w) } := by
  obtain ⟨o, es, ep, ho, hx, hd, hk, hp, nd⟩ := hl
  obtain ⟨z1, z2⟩ := key_int (fun k v q => Value.isInt_shape q) (fun k => rfl) hp hi (fun e he => hk e (by simpa using he))
  rw [Array.length_toList] at z1
  have ho1 : (s.heap.push (setNew w)).get? l = some o := Heap.get?_push_of_some _ ho
  have hT : Shared.TypeIs { s with heap := s.heap.push (setNew w) } (.ref l) "dict" := ⟨o, ho1, hx.1⟩
  have hls : l < s.heap.objs.size := Heap.lt_size ho
  have sz : (s.heap.push (setNew w)).objs.size = s.heap.objs.size + 1 := Heap.size_push ..
  have k1 := F.sub_dict_set
  have k2 := F.sub_dict_frozenset
  have hsb : scanBound = 4096 := rfl
  unfold Builtin.Frozenset.updateFrom
  refine wpAny_bind (dict_not_set hT ?_)
  dsimp only
  rw [if_neg Bool.false_ne_true]
  refine wpAny_bind (wpAny_typeOf hT ?_)
  rw [if_pos (by decide)]
  refine wpAny_bind (wpAny_rule ?_)
  refine wpAny_bind (wpAny_pure ?_)
  rw [hn]
  rw [if_neg Bool.false_ne_true]
  try refine wpAny_bind (wpAny_pure ?_)
  refine wpAny_bind (wpAny_dictEpoch ho1 hd ?_)
  refine wpAny_bind (wpAny_dictEntries ho1 hd ?_)
  have hS : (s.heap.push (setNew w)).get? s.heap.objs.size = some (setNew w) := Heap.get?_push_size _ rfl
  have R0 : SetR w (s.heap.push (setNew w)) s.heap.objs.size (fun _ => false) 0 := setR_fresh w
  refine wpAny_bind (setR_room (o := setNew w) (ep := 0) hS ⟨rfl, rfl, rfl⟩ rfl rfl rfl List.Pairwise.nil (by omega) ?_ ?_)
  · show w.params.followText "set-order" = true ∨ (!w.params.followText "set-order") = true
    cases w.params.followText "set-order" <;> simp
  intro h1 sb1 R1
  have ho2 : h1.get? l = some o := (sb1.2 l (Nat.ne_of_lt hls)).trans ho1
  refine wpAny_bind (wpAny_dictEntries ho2 hd ?_)
  refine wpAny_bind ?_
  refine TI.forIn_rng _ (fun rest b s' => ∃ (i : Nat) (c : Nat) (h' : Heap), rest = List.range' i (es.size - i) ∧ i ≤ es.size ∧ c ≤ i ∧ s' = { s with heap := h' } ∧ Heap.SameBut s.heap.objs.size (s.heap.push (setNew w)) h' ∧ SetR w h' s.heap.objs.size (fun j => decide (j ∈ ns.take i)) c) _ ?_ ?_ _ ⟨0, 0, h1, rfl, Nat.zero_le _, Nat.le_refl _, rfl, sb1, R1.congr fun k => by simp⟩
  · rintro y rest b s' ⟨i, c, h', hr, hi1, hc, rfl, sb, R⟩
    have hlt : i < es.size := by
      rcases Nat.lt_or_ge i es.size with q | q
      · exact q
      · rw [Nat.sub_eq_zero_of_le q] at hr; cases hr
    obtain ⟨ey, hrest⟩ : y = i ∧ rest = List.range' (i + 1) (es.size - (i + 1)) := by
      have e : es.size - i = (es.size - (i + 1)) + 1 := by omega
      rw [e, List.range'_succ] at hr
      exact ⟨(List.cons.inj hr).1, (List.cons.inj hr).2⟩
    subst ey
    have ho3 : h'.get? l = some o := (sb.2 l (Nat.ne_of_lt hls)).trans ho1
    refine wpAny_bind (wpAny_dictEntries ho3 hd ?_)
    rw [Array.getElem?_eq_getElem hlt]
    dsimp only
    obtain ⟨k, t, e1, e2, e3⟩ := z2 y es[y] (by rw [Array.getElem?_toList, Array.getElem?_eq_getElem hlt])
    rw [e2, e3]
    refine wpAny_bind (wpAny_holding (setR_add_hashed (P := P) (k := k) (tk := t) R (by omega) fun h2 sb2 R2 => ?_))
    have ho4 : h2.get? l = some o := (sb2.2 l (Nat.ne_of_lt hls)).trans ho3
    refine wpAny_bind (wpAny_dictEpoch ho4 hd ?_)
    refine wp_if_neg (by simp) ?_
    refine wpAny_pure ⟨y + 1, _, h2, hrest, hlt, ?_, rfl, sb.trans sb2, R2.congr fun j => ?_⟩
    · split <;> omega
    · have hk : ns.take (y + 1) = ns.take y ++ [k] := by rw [List.take_succ, e1]; rfl
      rw [hk]
      by_cases q1 : j ∈ ns.take y <;> by_cases q2 : j = k <;> simp [q1, q2]
  · rintro b s' ⟨i, c, h', hr, hi1, hc, rfl, sb, R⟩
    have e : i = es.size := by
      rcases Nat.lt_or_ge i es.size with q | q
      · have e : es.size - i = (es.size - (i + 1)) + 1 := by omega
        rw [e, List.range'_succ] at hr
        cases hr
      · omega
    subst e
    refine wpAny_pure (h _ ⟨c, by omega, R.congr fun k => by rw [z1, List.take_length], fun b o e => ?_, rfl, rfl, rfl⟩)
    exact (sb.2 b (Nat.ne_of_lt (Heap.lt_size e))).trans (Heap.get?_push_of_some _ e)
end
section
variable {X : Cx} {W : WX} {pos : Pos} {K : PySem.W.Frag} {F H : Hp}
def rSetD (w : World) : List V → Hp → VK → Prop := fun vs H Q => ∃ (l : Addr) (kvs : List (Key × V)) (ns : List Int), vs = [.ref l] ∧ Rd H l (.dK kvs) ∧ kvs.map (·.1) = ns.map Sum.inl ∧ ns.length + 1 < scanBound ∧
  ∀ p c, c ≤ ns.length → H p = none → Q (.ref p) (upd H p (SetO w p (fun j => decide (j ∈ ns)) c))
theorem cr_setD (hc : X.calm = true) : CallR X (.type "set") (rSetD X.w) := by
  intro pins s σ H vs us Q I r h
  obtain ⟨l, kvs, ns, rfl, hd, hk, hb, q⟩ := h
  rw [Vals.ref1 r]
  have done : ∀ s', FilledBy X.w s.heap s.heap.objs.size ns s s' → EP X pins σ Q (.ref s.heap.objs.size) s' := fun s' f => by
    obtain ⟨c, f1, f2, f3, f4, f5, f6⟩ := f
    have hn : H s.heap.objs.size = none := I.hok.fresh (Nat.le_refl _)
    have J : L2.Inv X pins σ (upd H s.heap.objs.size (SetO X.w s.heap.objs.size (fun j => decide (j ∈ ns)) c)) { s with heap := s'.heap, gens := s'.gens, drawn := s'.drawn, toks := s'.toks } :=
      I.call (ch := []) (Un.laid f3 (Nat.le_refl _) hn) (I.hok.laid f3 (Nat.le_refl _) (setO_new f2)) (by rw [f4]; exact I.bare) (fun _ z => nomatch z)
    have e : s' = { s with heap := s'.heap, gens := s'.gens, drawn := s'.drawn, toks := s'.toks } := by
      cases s'
      cases s
      cases f6
      rfl
    rw [e]
    exact ⟨.ref _, _, J, rfl, q _ c f1 hn⟩
  refine set_from (I.ok.hd hc) fun B hB => ?_
  obtain ⟨hz, hn, vs2, kv, dd⟩ := dk_rd I.hok hd
  exact fill_dict hn dd (by rw [← kv.keys]; exact hk) hb done
/-- the keys of a dict, where they are whole numbers -/
def keysInt : List (Key × D) → Option (List Int)
  | [] => some []
  | (.inl i, _) :: r => (keysInt r).map (i :: ·)
  | _ => none
theorem keysInt_eq : ∀ {kvs : List (Key × D)} {ns : List Int}, keysInt kvs = some ns → kvs.map (·.1) = ns.map Sum.inl
  | [], _, e => by cases e; rfl
  | (.inl i, d) :: r, ns, e => by
    unfold keysInt at e
    cases e1 : keysInt r with
    | none => rw [e1] at e; cases e
    | some ms =>
      rw [e1] at e
      cases e
      rw [List.map_cons, List.map_cons, keysInt_eq e1]
  | (.inr i, d) :: r, ns, e => by cases e
theorem DRk.keys : ∀ {ks : List (Key × V)} {kvs : List (Key × D)}, DRk K F ks kvs → ks.map (·.1) = kvs.map (·.1)
  | _, _, .nil => rfl
  | _, _, .cons h r => by rw [List.map_cons, List.map_cons, DRk.keys r]
def setInts : D → Option (List Int)
  | .dct kvs => keysInt kvs
  | d => seqInts d
/-- sorted(set(..)) of a list, a tuple, a dict -/
def dSortS (d : D) : Out R := match setInts d with
  | some ns => if ns.length < 4095 then .ok (.ow (.lst ((sset ns).map D.int))) else .st
  | none => .st
theorem n_sortS : ∀ d, noEx (dSortS d) := by
  intro d; unfold dSortS; repeat' (first | trivial | split)
def rSetOf (K : PySem.W.Frag) (w : World) : List V → Hp → VK → Prop := fun vs H Q => rSetI K w vs H Q ∨ rSetD w vs H Q
theorem cr_setA (hc : X.calm = true) : CallR X (.type "set") (rSetOf X.K X.w) := (cr_setI hc).or (cr_setD hc)
theorem setInts_v {x : V} {a : D} {ns : List Int} {w : World} {Q : VK} (s : Same F H) (hx : DV K F H x a) (e : setInts a = some ns) (hb : ns.length + 1 < scanBound)
    (q : ∀ p c, c ≤ ns.length → H p = none → Q (.ref p) (upd H p (SetO w p (fun j => decide (j ∈ ns)) c))) : rSetOf K w [x] H Q := by
  by_cases hd : ∃ kvs, a = .dct kvs
  · obtain ⟨kvs, rfl⟩ := hd
    obtain ⟨l, xs, rfl, q1, r1⟩ := hx.dct s
    exact .inr ⟨l, xs, ns, rfl, .inl q1, (r1.keys).trans (keysInt_eq e), hb, q⟩
  · have e2 : seqInts a = some ns := by
      cases a <;> first | exact e | exact absurd ⟨_, rfl⟩ hd
    obtain ⟨l, rfl, hq⟩ := seqInts_v s hx e2
    exact .inl ⟨l, ns, rfl, hq, hb, q⟩
theorem ev_sortS {p p2 pos2 : Pos} {e : Expr} {f : Sx} (hc : X.calm = true) (hg : Gl X "sorted") (hm : X.mg "sorted" = none) (hg2 : Gl X "set") (hm2 : X.mg "set" = none) (ha : EV X W e f)
    (he : starEach [e] X.env = (false, eval e X.env) :: starEach [] X.env := by rfl) (he2 : starEach [.Call (.Name "set" p2) [e] [] pos2] X.env = (false, eval (.Call (.Name "set" p2) [e] [] pos2) X.env) :: starEach [] X.env := by rfl) :
    EV X W (.Call (.Name "sorted" p) [.Call (.Name "set" p2) [e] [] pos2] [] pos) (e1 dSortS f) :=
  (pe_callB (cr_sortedSetA hc) hg hm (by decide +kernel) (pa_cons (pe_callTy (cr_setA hc) hg2 hm2 (by decide +kernel) (pa_cons ha pa_nil he) (by decide) (by decide) he rfl) pa_nil he2) (by decide) (by decide) he2 rfl).imp fun σ H Q h => by
    refine t1_of (K := X.K) (mg := X.mg) (W := W) (r := fun x H Q => rSetOf X.K X.w [x] H fun y H1 => rSortedSetA X.w [y] H1 Q) (φ := dSortS) (fun F H x a Q s hx h => ?_) n_sortS h
    unfold dSortS at h
    cases e1 : setInts a with
    | none => rw [e1] at h; exact h.elim
    | some ns =>
      rw [e1] at h
      obtain ⟨c, h⟩ := if_some h
      refine setInts_v s hx e1 (by show ns.length + 1 < 4096; omega) fun p c _ np => ?_
      refine ⟨p, _, c, rfl, upd_same, fun out q up mem nq => ?_⟩
      have eo : out = sset ns := up_one up (up_sset ns) fun k => by rw [mem k, mem_sset, decide_eq_true_iff]
      subst eo
      have x1 := Ext.newO (o := SetO X.w p (fun j => decide (j ∈ ns)) c) s np
      have x2 := Ext.newO (o := .lst ((sset ns).map V.int)) x1.fh nq
      exact h F _ _ (x1.trans x2) ⟨q, rfl, x1.hh.free nq, s.free (x1.hh.free nq), _, upd_same, .of_ints _⟩
end
end Fs

set_option maxHeartbeats 4000000
namespace Fs
open PySem PySem.Spec PyProof.Rows L2
section
variable {X : Cx} {K : PySem.W.Frag} {F H : Hp} {Q : VK} {W : WX} {pos : Pos} {mg : Str → Option Value}

/-! ### methods in expressions -/
def bTy (ty : D → Bool) (o p : Out R) : Out R := match o with
  | .ok r => if ty r.d then p else .st
  | .ex c => .ex c
  | .st => .st
@[simp] theorem bTy_ok (ty : D → Bool) (r : R) (p : Out R) : bTy ty (.ok r) p = if ty r.d then p else .st := rfl
@[simp] theorem bTy_ex (ty : D → Bool) (c : String) (p : Out R) : bTy ty (.ex c) p = .ex c := rfl
def eM (ty : D → Bool) (φ : D → D → Out R) (f g : Sx) : Sx := fun env => bTy ty (f env) (e2 φ f g env)
theorem tyV_isL {F H : Hp} {v : V} {d : D} (s : Same F H) (h : DV K F H v d) (e : isL d = true) : tyV K "list" v H := by
  cases d <;> first | (cases e; done) | skip
  obtain ⟨l, xs, rfl, q, _⟩ := h.lst s
  exact .inl ⟨rfl, xs, .of q⟩
theorem tBM_of {r : V → List V → Hp → VK → Prop} {T : String} {ty : D → Bool} {φ : D → D → Out R} {f g : Sx} (o : Op2 K (fun x y H Q => r x [y] H Q) φ) (n : ∀ a b, noEx (φ a b))
    (hty : ∀ F H v d, Same F H → DV K F H v d → ty d = true → tyV K T v H) {σ : Sg} {H : Hp} {Q : VK} (h : tE K mg W (eM ty φ f g) σ H Q) :
    tE K mg W f σ H fun x H1 => tyV K T x H1 ∧ tE K mg W g σ H1 fun y H2 => r x [y] H2 Q := by
  obtain ⟨F, env, rl, h⟩ := h
  refine ⟨F, env, rl, ?_⟩
  unfold eM at h
  cases e : f env with
  | ok ra =>
    rw [e] at h
    simp only [bTy_ok] at h
    cases et : ty ra.d with
    | false => rw [et] at h; exact h.elim
    | true =>
      rw [et, if_pos rfl] at h
      intro F1 H1 v x q
      refine ⟨hty F1 H1 v _ x.fh q.dv et, F1, env, rl.ext x, ?_⟩
      unfold e2 at h
      cases e' : g env with
      | ok rb =>
        simp only [e, e'] at h
        intro F2 H2 v2 x2 q2
        exact o F2 H2 v v2 _ _ Q x2.fh (x2.dv q.dv) q2.dv (okE_okV (x.trans x2) (n _ _) h)
      | ex c =>
        simp only [e, e'] at h
        exact fun F2 H2 cls x2 m => h F2 H2 cls (x.trans x2) m
      | st =>
        simp only [e, e'] at h
        exact h
  | ex c => rw [e] at h; exact h
  | st => rw [e] at h; exact h
theorem ev_bm {a b : Expr} {name : Str} {apos : Pos} {T id : String} {ty : D → Bool} {r : V → List V → Hp → VK → Prop} {φ : D → D → Out R} {f g : Sx} (pa : PlainAttrs T) (slot : PySem.Slot T name id) (hty : typeOf (.builtin id) = pure (.type "method_descriptor")) (hm : MtR X id r)
    (o : Op2 X.K (fun x y H Q => r x [y] H Q) φ) (n : ∀ a b, noEx (φ a b)) (hT : ∀ F H v d, Same F H → DV X.K F H v d → ty d = true → tyV X.K T v H) (ha : EV X W a f) (hb : EV X W b g)
    (hbase : attributeBase a name X.env (eval a X.env) = eval a X.env := by rfl)
    (hfew : ((backTo pos (starEach [b] X.env)).all (fun x => !x.1) && (backToKw pos (keywordEach [] X.env)).all (fun x => x.1.isSome)
      && decide (([b] : List Expr).length + ([] : List Keyword).length + (if ([] : List Keyword).isEmpty then 0 else 1) < 30)) = true := by rfl)
    (hline : (apos.endLine == pos.line) = true := by rfl) (hs : starEach [b] X.env = (false, eval b X.env) :: starEach [] X.env := by rfl) (hplain : (backTo pos (starEach [] X.env)).any (·.1) = false := by rfl) :
    EV X W (.Call (.Attribute a name apos) [b] [] pos) (eM ty φ f g) :=
  (pe_bm pa slot hty hm ha (pa_cons hb pa_nil hs) hbase hfew hline hs hplain).imp fun _ _ _ h => tBM_of o n hT h

/-! ### count, index of a list -/
def dCount (x y : D) : Out R := match x with
  | .lst ds => if pyOk (.lst ds) && pyOk y then cI (ds.countP fun z => deq z y : Nat) else .st
  | _ => .st
def dIndex (x y : D) : Out R := match x with
  | .lst ds => if pyOk (.lst ds) && pyOk y then (match ds.findIdx? fun z => deq z y with
    | some j => cI (j : Nat)
    | none => .st) else .st
  | _ => .st
def rCountD (K : PySem.W.Frag) : V → List V → Hp → VK → Prop := fun x xs H Q => ∃ (a : Addr) (y : V) (d : PyData) (ds : List PyData), x = V.ref a ∧ xs = [y] ∧ Dp K H (V.ref a) (.list ds) ∧ Dp K H y d ∧
  SeqAt.shaped (.list ds) = true ∧ SeqAt.shaped d = true ∧ Q (.int (ds.countP fun z => PyData.eqv z d : Nat)) H
theorem mt_countD (hu : X.A.units + 65 < cLine) : MtR X "list.count" (rCountD X.K) := by
  intro pins s σ H x xs v us Q I rx rxs h
  obtain ⟨a, y, d, ds, rfl, rfl, hl, hy, sl, sd, q⟩ := h
  cases rx
  cases rxs with
  | cons ry rt =>
    rename_i uy ut
    cases rt
    obtain ⟨bs, r1⟩ := Dp.reads I d y uy hy ry
    have hxs : PyData.canLayAll0 ds = true := SeqAt.canLay_of_shaped sl
    have hroom : X.A.units + 1 + min (PyData.depthAll ds) d.depth < cLine := room_in_shaped sd hu
    cases hl with
    | lst hs ha =>
      obtain ⟨its, rv, ⟨⟨cls, dd, data, sls⟩, n, ho, hc, hdn, hdt⟩, hlen⟩ := I.list hs
      simp only at hc hdt
      subst hc hdt
      obtain ⟨as, h4⟩ := Dp.readsAll I ds _ its ha rv
      have hmap : its.map (SeqAt.readOf s.heap) = ds := SeqAt.readsAll_map ds its as hxs h4
      refine call_meets PySem.F.slot_list_count ⟨_, ho, rfl⟩ PySem.F.entry_list_count (PySem.F.args_list_count_2 _ _)
        (SeqAt.list_countAt a its.toArray n dd sls uy (fun u => PyData.eqv (SeqAt.readOf s.heap u) d)) ⟨ho, SeqAt.items_eqAt (vs := its.toArray) (show ReadsAll s.heap its.toArray.toList ds as from h4) r1 hxs (SeqAt.canLay_of_shaped sd) hroom, ?_⟩
      have ec : (its.toArray.toList.countP fun u => PyData.eqv (SeqAt.readOf s.heap u) d) = ds.countP fun z => PyData.eqv z d := by
        rw [← hmap, List.countP_map]
        rfl
      refine ⟨.int (ds.countP fun z => PyData.eqv z d : Nat), H, I.tok _, ⟨s.toks, ?_⟩, q⟩
      show Value.int ((its.toArray.toList.countP (fun u => PyData.eqv (SeqAt.readOf s.heap u) d) : Nat) : Int) s.toks = _
      rw [ec]
theorem deq_py {a b : D} {p q : PyData} (e1 : toPy a = some p) (e2 : toPy b = some q) : deq a b = PyData.eqv p q := by unfold deq; rw [e1, e2]
theorem pys_cons {d : D} {ds : List D} {ps : List PyData} (e : toPys (d :: ds) = some ps) : ∃ p qs, toPy d = some p ∧ toPys ds = some qs ∧ ps = p :: qs := by
  simp only [toPys] at e
  cases e1 : toPy d with
  | none => rw [e1] at e; cases e
  | some p =>
    cases e2 : toPys ds with
    | none => rw [e1, e2] at e; cases e
    | some qs => rw [e1, e2] at e; cases e; exact ⟨p, qs, rfl, rfl, rfl⟩
theorem count_py : ∀ {ds : List D} {ps : List PyData} {x : D} {p : PyData}, toPys ds = some ps → toPy x = some p → (ps.countP fun z => PyData.eqv z p) = (ds.countP fun z => deq z x)
  | [], _, _, _, e, _ => by simp only [toPys, Option.some.injEq] at e; subst e; rfl
  | d :: ds, ps, x, p, e, ex => by
    obtain ⟨q, qs, e1, e2, rfl⟩ := pys_cons e
    rw [List.countP_cons, List.countP_cons, count_py e2 ex, deq_py e1 ex]
theorem find_py : ∀ {ds : List D} {ps : List PyData} {x : D} {p : PyData} {j : Nat}, toPys ds = some ps → toPy x = some p → (ds.findIdx? fun z => deq z x) = some j →
    ∃ z, ps[j]? = some z ∧ PyData.eqv z p = true ∧ ∀ (m : Nat) (z' : PyData), m < j → ps[m]? = some z' → PyData.eqv z' p = false
  | [], _, _, _, _, _, _, h => by simp at h
  | d :: ds, ps, x, p, j, e, ex, h => by
    obtain ⟨q, qs, e1, e2, rfl⟩ := pys_cons e
    rw [List.findIdx?_cons] at h
    cases c : deq d x with
    | true =>
      simp only [c, if_true] at h
      cases h
      exact ⟨q, rfl, by rw [← deq_py e1 ex]; exact c, fun m z' hm => absurd hm (Nat.not_lt_zero m)⟩
    | false =>
      simp only [c, Bool.false_eq_true, if_false, Option.map_eq_some_iff] at h
      obtain ⟨j', h1, rfl⟩ := h
      obtain ⟨z, z1, z2, z3⟩ := find_py e2 ex h1
      refine ⟨z, by simpa using z1, z2, fun m z' hm hz => ?_⟩
      cases m with
      | zero =>
        cases (show some q = some z' by simpa using hz)
        rw [← deq_py e1 ex]
        exact c
      | succ m => exact z3 m z' (by omega) (by simpa using hz)
theorem DV.refl_lst {v : V} {ds : List D} (s : Same F H) (h : DV K F H v (.lst ds)) : ∃ a, v = .ref a := by
  obtain ⟨l, _, rfl, _⟩ := h.lst s
  exact ⟨l, rfl⟩
theorem o2_count : Op2 K (fun x y H Q => rCountD K x [y] H Q) dCount := by
  intro F H x y a b Q s hx hy h
  cases a <;> first | exact (False.elim h) | skip
  rename_i ds
  obtain ⟨c, h⟩ := if_some h
  rw [Bool.and_eq_true] at c
  obtain ⟨p, e1, s1⟩ := pyOk_py c.1
  obtain ⟨q, e2, s2⟩ := pyOk_py c.2
  obtain ⟨ps, e3, rfl⟩ := pys_of_lst e1
  obtain ⟨l, rfl⟩ := DV.refl_lst s hx
  refine ⟨l, y, q, ps, rfl, rfl, hx.dp s e1, hy.dp s e2, s1, s2, ?_⟩
  rw [count_py e3 e2]
  exact okV_cl s h (.int _)
theorem n_count : ∀ a b, noEx (dCount a b) := by
  intro a b; unfold dCount cI; repeat' (first | trivial | split)
theorem o2_index : Op2 K (fun x y H Q => rIndexD K x [y] H Q) dIndex := by
  intro F H x y a b Q s hx hy h
  cases a <;> first | exact (False.elim h) | skip
  rename_i ds
  obtain ⟨c, h⟩ := if_some h
  rw [Bool.and_eq_true] at c
  obtain ⟨p, e1, s1⟩ := pyOk_py c.1
  obtain ⟨q, e2, s2⟩ := pyOk_py c.2
  obtain ⟨ps, e3, rfl⟩ := pys_of_lst e1
  obtain ⟨l, rfl⟩ := DV.refl_lst s hx
  cases e4 : ds.findIdx? fun z => deq z b with
  | none => rw [e4] at h; exact h.elim
  | some j =>
    rw [e4] at h
    obtain ⟨z, z1, z2, z3⟩ := find_py e3 e2 e4
    exact ⟨l, y, q, ps, j, z, rfl, rfl, hx.dp s e1, hy.dp s e2, s1, s2, z1, z2, z3, okV_cl s h (.int _)⟩
theorem n_index : ∀ a b, noEx (dIndex a b) := by
  intro a b; unfold dIndex cI; repeat' (first | trivial | split)

/-! ### d.get(k, x) -/
def dGet2 (x k z : D) : Out R := match x with
  | .dct kvs => (match dKey k with
    | some k => cD ((dLook kvs k).getD z)
    | none => .st)
  | _ => .st
end
section
variable {X : Cx} {K : PySem.W.Frag} {W : WX} {pos : Pos}
def eGet (f g k : Sx) : Sx := fun env => match f env with
  | .ok r => (match r.d with
    | .dct kvs => (match g env with
      | .ok rk => (match k env with
        | .ok (.cl z) => (match dKey rk.d with
          | some k => cD ((dLook kvs k).getD z)
          | none => .st)
        | .ok _ => .st
        | .ex c => .ex c
        | .st => .st)
      | .ex c => .ex c
      | .st => .st)
    | _ => .st)
  | .ex c => .ex c
  | .st => .st
theorem ev_get {a b e : Expr} {apos : Pos} {f g k : Sx} (hu : X.A.units + 66 < cLine) (ha : EV X W a f) (hb : EV X W b g) (he : EV X W e k)
    (h1 : attributeBase a "get" X.env (eval a X.env) = eval a X.env := by rfl) (h2 : ((backTo pos (starEach [b, e] X.env)).all (fun x => !x.1) && (backToKw pos (keywordEach [] X.env)).all (fun x => x.1.isSome)
      && decide (([b, e] : List Expr).length + ([] : List Keyword).length + (if ([] : List Keyword).isEmpty then 0 else 1) < 30)) = true := by rfl)
    (h3 : (apos.endLine == pos.line) = true := by rfl) (h4 : backTo pos (starEach [b, e] X.env) = [(false, eval b X.env), (false, eval e X.env)] := by rfl) :
    EV X W (.Call (.Attribute a "get" apos) [b, e] [] pos) (eGet f g k) := (pe_dget2 (by omega) ha hb he ⟨h1, h2, h3, h4⟩).imp fun σ H Q h => by
  obtain ⟨F, env, rl, h⟩ := h
  refine ⟨F, env, rl, ?_⟩
  unfold eGet at h
  cases e1 : f env with
  | ok r =>
    simp only [e1] at h
    cases ed : r.d <;> simp only [ed] at h <;> first | exact h.elim | skip
    rename_i kvs
    intro F1 H1 v x q
    have q2 := q.dv
    rw [ed] at q2
    obtain ⟨l, ks, rfl, hl, rk⟩ := q2.dct x.fh
    refine ⟨l, rfl, .inl ⟨ks, .inl hl⟩, F1, env, rl.ext x, ?_⟩
    cases e2 : g env with
    | ok rk' =>
      simp only [e2] at h
      intro F2 H2 y x2 qk
      refine ⟨F2, env, (rl.ext x).ext x2, ?_⟩
      cases e3 : k env with
      | ok rz =>
        simp only [e3] at h
        cases rz with
        | cl z =>
          simp only [] at h
          cases ek : dKey rk'.d with
          | none => simp only [ek] at h; exact h.elim
          | some k' =>
            simp only [ek] at h
            intro F3 H3 u x3 qz
            have hl3 : H3 l = some (.dK ks) := (x2.trans x3).hh _ _ hl
            have g3 := DGet.k (k := k') hl3
            have ey : y = kV k' := dKey_v qk.dv ek
            refine ⟨valV ks k', by rw [ey]; exact g3, ?_⟩
            have lk := (rk.mono (x2.trans x3).ff).look (k := k')
            have x123 := x.trans (x2.trans x3)
            cases e4 : dLook kvs k' with
            | none =>
              rw [e4] at lk h
              rw [show valV ks k' = none from lk]
              exact h F3 H3 u x123 qz
            | some d =>
              rw [e4] at lk h
              obtain ⟨v, lk, rv⟩ := lk
              rw [lk]
              exact h F3 H3 v x123 rv
        | ow z => simp only [] at h; exact h.elim
        | bo z => simp only [] at h; exact h.elim
      | ex c => simp only [e3] at h; exact fun F3 H3 cls x3 m => h F3 H3 cls (x.trans (x2.trans x3)) m
      | st => simp only [e3] at h; exact h
    | ex c => simp only [e2] at h; exact fun F3 H3 cls x3 m => h F3 H3 cls (x.trans x3) m
    | st => simp only [e2] at h; exact h
  | ex c => simp only [e1] at h; exact h
  | st => simp only [e1] at h; exact h
end

theorem _root_.L2H.RoomH.units {k : Nat} {A : Around} (r : L2H.RoomH k A) : A.units + 64 < cLine := by have := r.un; omega
theorem hu66H {A : Around} {k : Nat} (hr : L2H.RoomH k A) : A.units + 66 < cLine := by have := hr.un; omega
theorem hu65 {A : Around} (h : A.units + 66 < cLine) : A.units + 65 < cLine := by omega
theorem room_mark {A : Around} {k : Nat} (hr : Room k A) (v : Option Value) : L2H.RoomH k (A.mark v) := ⟨hr.dp, hr.un⟩
/-! ### an exception in hand -/
noncomputable section
open Classical in
def sameS (hs : Addr → SO) : SO := if ∀ a, hs a = hs 0 then hs 0 else .st
open Classical in
def sameR (hs : Addr → Out R) : Out R := if ∀ a, hs a = hs 0 then hs 0 else .st
@[simp] theorem sameS_const (o : SO) : sameS (fun _ => o) = o := by
  unfold sameS
  rw [if_pos fun _ => rfl]
@[simp] theorem sameR_const (o : Out R) : sameR (fun _ => o) = o := by
  unfold sameR
  rw [if_pos fun _ => rfl]
theorem sameS_at {hs : Addr → SO} (h : sameS hs ≠ .st) (a : Addr) : hs a = sameS hs := by
  unfold sameS at h ⊢
  by_cases c : ∀ a, hs a = hs 0
  · rw [if_pos c]; exact c a
  · rw [if_neg c] at h; exact absurd rfl h
theorem sameR_at {hs : Addr → Out R} (h : sameR hs ≠ .st) (a : Addr) : hs a = sameR hs := by
  unfold sameR at h ⊢
  by_cases c : ∀ a, hs a = hs 0
  · rw [if_pos c]; exact c a
  · rw [if_neg c] at h; exact absurd rfl h
def isExc (a : Addr) : Option Slot → Bool
  | some (.exc b) => decide (b = a)
  | _ => false
theorem isExc_of {a : Addr} {o : Option Slot} (h : isExc a o = true) : o = some (.exc a) := by
  unfold isExc at h
  split at h
  · rw [of_decide_eq_true h]
  · cases h
/-- of the exception at a, in slot i: o -/
def eExc (i : Nat) (a : Addr) (o : Out R) : Sx := fun env => if isExc a env[i]? = true then o else .st
section
variable {X : Cx} {K : PySem.W.Frag} {mg : Str → Option Value} {W : WX} {pos : Pos}
theorem call_isEp {a D : Addr} {oe : Obj} (C : ExcC X.K D) (hz : Zc (.ref D) none oe) (hf : ∃ vs, oe.data = .fields vs) (hp : (a, oe) ∈ X.pn) : CallR X (.builtin "isinstance") (rIsE X.K D a) := by
  intro pins s σ H xs us Q I r h
  obtain ⟨c, cv, b, rfl, hcv, e, q⟩ := h
  cases r with
  | cons rx rr =>
    cases rr with
    | cons rt rr =>
      cases rr
      cases rx
      have ec := hcv _ rt
      subst ec
      obtain ⟨hget, _⟩ := I.pin (a, oe) (List.mem_append.mpr (.inl hp))
      obtain ⟨vs, hv⟩ := hf
      have J : PySem.W.InstAt s.heap a oe D none := by
        obtain ⟨oc, od, oda, osl⟩ := oe
        obtain ⟨h1, h2⟩ := hz
        dsimp only at h1 h2 hv
        subst h1 h2 hv
        exact ⟨hget, rfl, rfl, trivial⟩
      exact PySem.W.kia_one (PySem.W.handS_kitx_exc C.hg C.hk C.hs C.hd C.ha C.hn C.ht C.hm) I.kIn J e (fun z => nomatch z) fun tk => ⟨.bl b, H, I.kept (t' := tk) fun _ _ z => z, rfl, q⟩
/-- isinstance(e, (A, B, ..)) -/
def rIsET (K : PySem.W.Frag) (D a : Addr) : List V → Hp → VK → Prop := fun xs H Q => ∃ (tp : Addr) (cs : List Addr) (b : Bool), xs = [.ref a, .ref tp] ∧ H tp = some (.tup (cs.map V.ref)) ∧ PySem.W.kitAny K (.ref D) (cs.map Value.ref) = some b ∧ Q (.bl b) H
theorem vals_refs : ∀ {cs : List Addr} {us : List Value}, Vals (cs.map V.ref) us → us = cs.map Value.ref
  | [], _, .nil => rfl
  | c :: cs, _, .cons r t => by
    cases r
    rw [vals_refs t]
    rfl
theorem call_isET {a D : Addr} {oe : Obj} (C : ExcC X.K D) (hz : Zc (.ref D) none oe) (hf : ∃ vs, oe.data = .fields vs) (hp : (a, oe) ∈ X.pn) : CallR X (.builtin "isinstance") (rIsET X.K D a) := by
  intro pins s σ H xs us Q I r h
  obtain ⟨tp, cs, b, rfl, hT, e, q⟩ := h
  obtain ⟨u1, u2, rfl, r1, r2⟩ := Vals.two r
  cases (show u1 = Value.ref a from r1)
  cases (show u2 = Value.ref tp from r2)
  obtain ⟨hget, _⟩ := I.pin (a, oe) (List.mem_append.mpr (.inl hp))
  obtain ⟨vs, hv⟩ := hf
  have J : PySem.W.InstAt s.heap a oe D none := by
    obtain ⟨oc, od, oda, osl⟩ := oe
    obtain ⟨h1, h2⟩ := hz
    dsimp only at h1 h2 hv
    subst h1 h2 hv
    exact ⟨hget, rfl, rfl, trivial⟩
  obtain ⟨_, its, rv, o, h1, h2, n, h3⟩ := (show ObjOk X.prog X.w H s.heap tp (.tup (cs.map V.ref)) from I.hok tp _ hT)
  have e3 := vals_refs rv
  subst e3
  obtain ⟨oc, od, dt, sl⟩ := o
  simp only at h2 h3
  subst h2 h3
  exact PySem.W.kia_tup (PySem.W.handS_kitx_exc C.hg C.hk C.hs C.hd C.ha C.hn C.ht C.hm) I.kIn J h1 e (fun z => nomatch z) fun tk => ⟨.bl b, H, I.kept (t' := tk) fun _ _ z => z, rfl, q⟩
def oSome (o : Option Bool) : Out R := match o with
  | some b => cB b
  | none => .st
@[simp] theorem oSome_some (b : Bool) : oSome (some b) = cB b := rfl
theorem oSome_of {F H : Hp} {σ : Sg} {Q : VK} {o : Option Bool} (rs : Same F H) (h : okE K mg W F H σ Q (oSome o)) : ∃ b, o = some b ∧ Q (.bl b) H := by
  cases o with
  | none => exact h.elim
  | some b => exact ⟨b, rfl, h F H _ (.refl rs) (.bl _)⟩
theorem eExc_of {F H : Hp} {σ : Sg} {env : Env} {Q : VK} {i : Nat} {a : Addr} {o : Out R} (rl : Rel K F H σ env) (h : okE K mg W F H σ Q (eExc i a o env)) : σ[i]? = some (some (.ref a)) ∧ okE K mg W F H σ Q o := by
  unfold eExc at h
  by_cases c : isExc a env[i]? = true
  · rw [if_pos c] at h
    exact ⟨rl.ex i a (isExc_of c), h⟩
  · rw [if_neg c] at h
    exact h.elim
/-- isinstance(e, C), C a class of the module -/
theorem ev_isE {p p2 p3 : Pos} {i : Nat} {x T : Str} {a D rT : Addr} {oe : Obj} {ob : Option Bool} (C : ExcC X.K D) (hz : Zc (.ref D) none oe) (hf : ∃ vs, oe.data = .fields vs) (hp : (a, oe) ∈ X.pn)
    (hg : Gl X "isinstance") (hm : X.mg "isinstance" = none) (hT : Gl X T) (mT : X.mg T = some (.ref rT)) (hk : ∀ b, ob = some b → PySem.W.kitOne X.K (.ref D) (.ref rT) = some b) (hN : X.N[i]? = some x)
    (hv : Vis X.env.scope x := by first | exact Or.inl rfl | exact Or.inr (Or.inl rfl) | exact Or.inr (Or.inr rfl)) (hd : (x == ("__debug__" : Str)) = false := by decide) (hcd : (x == ("__classdict__" : Str)) = false := by decide) (hdT : (T == ("__debug__" : Str)) = false := by decide)
    (he : starEach [.Name x p3, .Name T p2] X.env = (false, eval (.Name x p3) X.env) :: starEach [.Name T p2] X.env := by rfl) :
    EV X W (.Call (.Name "isinstance" p) [.Name x p3, .Name T p2] [] pos) (eExc i a (oSome ob)) :=
  (pe_callB (call_isEp C hz hf hp) hg hm (by decide +kernel) (pa_cons (pe_var hN hv hd hcd) (pa_cons (pe_glob (v := .ref rT) hT mT rfl hdT) pa_nil) he) (by decide) (by decide) he rfl).imp fun σ H Q h => by
    obtain ⟨F, env, rl, h⟩ := h
    obtain ⟨el, h⟩ := eExc_of rl h
    obtain ⟨b, eb, q⟩ := oSome_of rl.sub h
    exact ⟨.ref a, el, .ref rT, .ref rT, b, rfl, fun u r => r, hk b eb, q⟩
/-- .. of a built-in class -/
theorem ev_isEB {p p2 p3 : Pos} {i : Nat} {x T : Str} {U : String} {a D : Addr} {oe : Obj} {ob : Option Bool} (C : ExcC X.K D) (hz : Zc (.ref D) none oe) (hf : ∃ vs, oe.data = .fields vs) (hp : (a, oe) ∈ X.pn)
    (hg : Gl X "isinstance") (hm : X.mg "isinstance" = none) (hT : Gl X T) (mT : X.mg T = none) (bT : bootBuiltins T = some (.type U)) (hk : ∀ b, ob = some b → PySem.W.kitOne X.K (.ref D) (.type U) = some b) (hN : X.N[i]? = some x)
    (hv : Vis X.env.scope x := by first | exact Or.inl rfl | exact Or.inr (Or.inl rfl) | exact Or.inr (Or.inr rfl)) (hd : (x == ("__debug__" : Str)) = false := by decide) (hcd : (x == ("__classdict__" : Str)) = false := by decide) (hn : T ≠ "__name__" := by decide) (hdT : (T == ("__debug__" : Str)) = false := by decide)
    (he : starEach [.Name x p3, .Name T p2] X.env = (false, eval (.Name x p3) X.env) :: starEach [.Name T p2] X.env := by rfl) :
    EV X W (.Call (.Name "isinstance" p) [.Name x p3, .Name T p2] [] pos) (eExc i a (oSome ob)) :=
  (pe_callB (call_isEp C hz hf hp) hg hm (by decide +kernel) (pa_cons (pe_var hN hv hd hcd) (pa_cons (pe_bltn (v := .ty U) hT mT bT rfl hn hdT) pa_nil) he) (by decide) (by decide) he rfl).imp fun σ H Q h => by
    obtain ⟨F, env, rl, h⟩ := h
    obtain ⟨el, h⟩ := eExc_of rl h
    obtain ⟨b, eb, q⟩ := oSome_of rl.sub h
    exact ⟨.ref a, el, .ty U, .type U, b, rfl, fun u r => r, hk b eb, q⟩

/-- isinstance(e, (A, B, ..)) -/
def anyO : List (Option Bool) → Option Bool
  | [] => some false
  | o :: os => match o with
    | some true => some true
    | some false => anyO os
    | none => none
inductive KAll (K : PySem.W.Frag) (D : Addr) : List Addr → List (Option Bool) → Prop
  | nil : KAll K D [] []
  | cons {r : Addr} {o : Option Bool} {rs : List Addr} {os : List (Option Bool)} (h : ∀ b, o = some b → PySem.W.kitOne K (.ref D) (.ref r) = some b) (t : KAll K D rs os) : KAll K D (r :: rs) (o :: os)
theorem KAll.any {D : Addr} : ∀ {rs : List Addr} {os : List (Option Bool)}, KAll K D rs os → ∀ b, anyO os = some b → PySem.W.kitAny K (.ref D) (rs.map Value.ref) = some b
  | _, _, .nil, b, e => by cases e; rfl
  | _, _, .cons (r := r) (o := o) (rs := rs) (os := os) h t, b, e => by
    cases o with
    | none => cases e
    | some v =>
      cases v with
      | true =>
        cases e
        show PySem.W.kitAny K (.ref D) (.ref r :: rs.map Value.ref) = _
        unfold PySem.W.kitAny
        rw [h true rfl]
      | false =>
        show PySem.W.kitAny K (.ref D) (.ref r :: rs.map Value.ref) = _
        unfold PySem.W.kitAny
        rw [h false rfl]
        exact KAll.any t b e
/-- names of classes of the module -/
def PR (X : Cx) (es : List Expr) (cs : List Addr) : Prop := PA X es (fun _ H Q => Q (cs.map V.ref) H)
theorem pr_nil : PR X [] [] := pa_nil
theorem pr_cons {x : Str} {a : Addr} {es : List Expr} {cs : List Addr} {p : Pos} (hT : Gl X x) (mT : X.mg x = some (.ref a)) (r : PR X es cs) (hd : (x == ("__debug__" : Str)) = false := by decide)
    (he : starEach (.Name x p :: es) X.env = (false, eval (.Name x p) X.env) :: starEach es X.env := by rfl) : PR X (.Name x p :: es) (a :: cs) := pa_cons (pe_glob (v := .ref a) hT mT rfl hd) r he
theorem ev_isET {p p3 pt : Pos} {k : Nat} {i : Nat} {x : Str} {es : List Expr} {a D : Addr} {oe : Obj} {cs : List Addr} {os : List (Option Bool)} (C : ExcC X.K D) (hz : Zc (.ref D) none oe) (hf : ∃ vs, oe.data = .fields vs) (hp : (a, oe) ∈ X.pn)
    (hg : Gl X "isinstance") (hm : X.mg "isinstance" = none) (hr : PR X es cs) (hk : KAll X.K D cs os) (hN : X.N[i]? = some x) (hl : cs.length ≤ 1000 := by first | decide | exact Nat.le_of_ble_eq_true rfl)
    (hv : Vis X.env.scope x := by first | exact Or.inl rfl | exact Or.inr (Or.inl rfl) | exact Or.inr (Or.inr rfl)) (hd : (x == ("__debug__" : Str)) = false := by decide) (hcd : (x == ("__classdict__" : Str)) = false := by decide)
    (he : starEach [.Name x p3, .Tuple es k pt] X.env = (false, eval (.Name x p3) X.env) :: starEach [.Tuple es k pt] X.env := by rfl) :
    EV X W (.Call (.Name "isinstance" p) [.Name x p3, .Tuple es k pt] [] pos) (eExc i a (oSome (anyO os))) :=
  (pe_callB (call_isET C hz hf hp) hg hm (by decide +kernel) (pa_cons (pe_var hN hv hd hcd) (pa_cons (pe_tup hr) pa_nil) he) (by decide) (by decide) he rfl).imp fun σ H Q h => by
    obtain ⟨F, env, rl, h⟩ := h
    obtain ⟨el, h⟩ := eExc_of rl h
    obtain ⟨b, eb, _⟩ := oSome_of rl.sub h
    rw [eb] at h
    refine ⟨.ref a, el, ?_⟩
    refine ⟨by rw [List.length_map, sizeLine_eq]; omega, fun q n => ?_⟩
    exact ⟨q, cs, b, rfl, upd_same, hk.any b eb, h F _ _ (.newO rl.sub n) (.bl _)⟩

/-! ### defs that are called while an exception is handled: of the exception alone -/
def gE (n : Nat) (sub : String → Option Bool) (body : String → Addr → Stx) (c : String) : Out R := match sub c with
  | some true => sameR fun a => outS (body c a (.exc a :: List.replicate (n - 1) .un))
  | _ => .st
def spE (K : PySem.W.Frag) (mg : Str → Option Value) (o : Out R) (H : Hp) (Q : VK) (E : XK) : Prop := ∃ F, Same F H ∧ match o with
  | .ok r => ∀ F' H' v, Ext F H F' H' → RV K F' H H' v r → Q v H'
  | .ex c => ∀ F' H' cls, Ext F H F' H' → mg (Str.ofString c) = some cls → E cls none H'
  | .st => False
structure FnE (P : Program) (w : World) (K : PySem.W.Frag) (mg : Str → Option Value) (base : Heap) (k : Nat) (f : Addr) (fd : FuncData) (ps : List Str) (g : String → Out R) : Prop where
  run : ∀ (A : Around) (outer : List PySem.Env) (s : Shared) (H : Hp) (args : Args) (us : List Value) (a : Addr) (oe : Obj) (c : String) (D : Addr) (Q : VK) (E : XK), L2H.RoomH k A → L2H.PinOk outer H s (a, oe) →
    mg (Str.ofString c) = some (.ref D) → Zc (.ref D) none oe → (∃ vs, oe.data = .fields vs) → Env0 P w K mg base A outer s H → BindsTo s fd args (ps.zip us) → Vals [.ref a] us → spE K mg (g c) H Q E →
    codeAny (model P w) A (.call (.ref f) args) (CR (L2.CX P w) outer P w H s Q E) s
end
section
variable {P : Program} {w : World} {K : PySem.W.Frag} {mg : Str → Option Value} {base : Heap}
theorem srelE {F H : Hp} {N : List Str} {a : Addr} (s : Same F H) (hl : 1 ≤ N.length) : SRel K F H F H (L2.start N [.ref a]) (.exc a :: List.replicate (N.length - 1) .un) := by
  have un : ∀ (i : Nat) t, (Slot.exc a :: List.replicate (N.length - 1) Slot.un)[i]? = some t → (i = 0 ∧ t = .exc a) ∨ t = .un := fun i t q => by
    cases i with
    | zero => cases q; exact .inl ⟨rfl, rfl⟩
    | succ i =>
      right
      have := List.mem_of_getElem? (show (List.replicate (N.length - 1) Slot.un)[i]? = some t from q)
      exact (List.mem_replicate.mp this).2
  refine ⟨⟨s, ?_, fun i d q => ?_, fun i d q => ?_, fun i j d e l q => ?_, fun i c q => ?_⟩, .refl s, fun i d l q => ?_⟩
  · unfold L2.start
    simp only [List.length_append, List.length_map, List.length_cons, List.length_nil, List.length_replicate]
    omega
  · rcases un i _ q with ⟨_, z⟩ | z <;> cases z
  · rcases un i _ q with ⟨_, z⟩ | z <;> cases z
  · rcases un i _ q with ⟨_, z⟩ | z <;> cases z
  · rcases un i _ q with ⟨z1, z⟩ | z
    · cases z; subst z1; rfl
    · cases z
  · rcases un i _ q with ⟨_, z⟩ | z <;> cases z
theorem fnE_ok {x qual : Str} {st : Stmt} {f : Addr} {fd : FuncData} {N ps : List Str} {k : Nat} {sub : String → Option Bool} {body : String → Addr → Stx} (Fn : Fun K x qual st f fd) (S : FnScope N ps (defScope st)) (hl : ps.length = 1) (hN : 1 ≤ N.length)
    (hb : ∀ (cdv : Value) (A : Around) (outer : List PySem.Env) (s : Shared) (H : Hp) (E : XK) (a : Addr) (oe : Obj) (c : String) (D : Addr), L2H.RoomH k (A.deeper (envOfC qual (defScope st) s.heap.objs.size f cdv)) →
      sub c = some true → mg (Str.ofString c) = some (.ref D) → Zc (.ref D) none oe → (∃ vs, oe.data = .fields vs) →
      SVs (L2H.cxH (L2.CX P w) P w K mg base N qual (defScope st) f cdv A outer s H E (a, oe)) (fun cls d _ H => E cls d H) (defBody st) (body c a)) :
    FnE P w K mg base (k + 1) f fd ps (gE N.length sub body) := by
  obtain ⟨oc, od, kV, doc, pm, an, cdv, ct, osl, rfl, lk, hcd⟩ := Fn.ex
  refine ⟨fun A outer s H args us a oe c D Q E hr hpin hm hz hv e0 hbt r hsp => ?_⟩
  have KX : K.In s.heap := e0.mod.kin.keeps fun b o e => (e0.bs b o e).1
  have lim : s.heap.NoLimit := e0.mod.nolimit.keeps fun b o e => (e0.bs b o e).1
  have hkind : ∀ y ∈ ps.zip us, (defScope st).names.lookup y.1 = some .local ∨ ((defScope st).names.lookup y.1 = some .cell ∧ ((cellsFrom (s.heap.objs.size + 1) (defScope st).names []).lookup y.1).isSome = true) := fun ⟨n, v⟩ hy => by
    rcases S.par n (List.of_mem_zip hy).1 with q | q
    · exact .inl q
    · exact .inr ⟨q, PySem.W.cellsFrom_some _ _ _ (.inl q)⟩
  refine codeAny_call_function hr.depth (KX _ _ lk) rfl S.co S.gen rfl (PySem.W.codeRec_of KX hcd) (hbt _ _ _ _ ?_)
  refine wpAny_newFunctionEnv_cells S.kind hkind fun env he s1 xc => ?_
  subst he
  refine ⟨lim.keeps xc.toInCall.keep, codeAny_func ?_⟩
  have hk : L2H.RoomH k (A.deeper (envOfC qual (defScope st) s.heap.objs.size f cdv)) := hr.deeper _
  have hok : sub c = some true := by
    obtain ⟨F, _, z⟩ := hsp
    cases e : sub c with
    | none => rw [show gE N.length sub body c = .st by unfold gE; rw [e]] at z; exact z.elim
    | some b =>
      cases b with
      | true => rfl
      | false => rw [show gE N.length sub body c = .st by unfold gE; rw [e]] at z; exact z.elim
  have ht := hb cdv A outer s H E a oe c D hk hok hm hz hv
  have I := L2H.inv_startH (CX := L2.CX P w) (qual := qual) (f := f) (cd := cdv) (E := E) S hpin e0 (vs := [.ref a]) hl.symm r xc
  obtain ⟨F, sf, z⟩ := hsp
  have hq : tS K mg (fun cls d _ H => E cls d H) (body c a) { nx := fun _ H' => Q .non H', rt := Q } (L2.start N [.ref a]) H := by
    refine ⟨F, H, F, _, srelE sf hN, ?_⟩
    have eg : gE N.length sub body c = sameR fun a => outS (body c a (.exc a :: List.replicate (N.length - 1) .un)) := by unfold gE; rw [hok]
    rw [eg] at z
    have ne : (sameR fun a => outS (body c a (.exc a :: List.replicate (N.length - 1) .un))) ≠ .st := fun y => by rw [y] at z; exact z
    have ea := sameR_at ne a
    rw [← ea] at z
    unfold outS at z
    cases e2 : body c a (.exc a :: List.replicate (N.length - 1) .un) <;> simp only [e2] at z
    · exact fun F1 H1 σ1 r1 => z F1 H1 .non r1.ext .non
    · exact fun F1 H1 v x q => z F1 H1 v x q
    · exact fun F1 H1 σ1 cls r1 m => z F1 H1 cls r1.ext m
  refine wpAny_mono (ht.run [] s1 (L2.start N [.ref a]) H _ I hq) (fun fl s' hs => ?_) fun e s' hs => hs
  have fin : ∀ {σ' : Sg} {H' : Hp} {v : V} {u : Value}, L2.Inv (L2H.cxH (L2.CX P w) P w K mg base N qual (defScope st) f cdv A outer s H E (a, oe)) [] σ' H' s' → RelV v u → Q v H' → CE outer P w H s Q u s' :=
    fun {σ' H' v u} J rv q => ⟨v, H', J.os, J.bare, J.base, J.hok, rv, q⟩
  cases fl with
  | ret u =>
    obtain ⟨v, σ', H', J, rv, q⟩ := hs
    exact fin J rv q
  | next =>
    obtain ⟨σ', H', J, q⟩ := hs
    exact fin (v := V.non) (u := Value.none) J rfl q
  | brk =>
    obtain ⟨_, _, _, q⟩ := hs
    exact False.elim q
  | cont =>
    obtain ⟨_, _, _, q⟩ := hs
    exact False.elim q
end
section
variable {X : Cx} {K : PySem.W.Frag} {mg : Str → Option Value} {W : WX} {pos : Pos}
theorem run_fnE {pins : List (Addr × Obj)} {σ : Sg} {H : Hp} {s : Shared} {Q : VK} {us : List Value} {k : Nat} {f a D : Addr} {oe : Obj} {c : String} {fd : FuncData} {ps : List Str} {g : String → Out R} {E : XK} (Fn : FnE X.prog X.w X.K X.mg X.base k f fd ps g) (hr : L2H.RoomH k X.A) (hp : (a, oe) ∈ X.pn)
    (hm : X.mg (Str.ofString c) = some (.ref D)) (hz : Zc (.ref D) none oe) (hv : ∃ vs, oe.data = .fields vs) (hb : Binds X.K fd ps []) (hl : ps.length = 1) (hx : PassesAt (L2.CX X.prog X.w) X σ E) (I : L2.Inv X pins σ H s) (r : Vals [.ref a] us) (h : spE X.K X.mg (g c) H Q E) :
    wpAny (model X.prog X.w) X.A (call (.ref f) us) (EP X pins σ Q) X.xe s := by
  have hlu : us.length = ps.length := by rw [← r.length, hl]; rfl
  have b := hb s us I.kIn (by rw [List.append_nil]; exact hlu)
  rw [List.append_nil] at b
  have P1 := I.pin (a, oe) (List.mem_append_left _ hp)
  have hpin : L2H.PinOk X.stack H s (a, oe) := ⟨P1.1, P1.2.1, fun hm => (List.mem_cons.mp (I.stkSub a hm)).elim P1.2.2.1 P1.2.2.2.1, P1.2.2.2.2⟩
  refine wpAny_call (codeAny_mono (Fn.run X.A X.stack s H ⟨us, []⟩ us a oe c D Q E hr hpin hm hz hv I.env0 b r h) fun r s' hq => ?_)
  cases r with
  | error e => exact hx pins H s e s' I hq
  | ok fl =>
    cases fl with
    | ret u => exact I.after hq
    | next => exact False.elim hq
    | brk => exact False.elim hq
    | cont => exact False.elim hq
theorem ev_callE {i k : Nat} {f a D : Addr} {oe : Obj} {c : String} {fd : FuncData} {ps : List Str} {g : String → Out R} {x y : Str} {p p2 : Pos} (Fn : FnE X.prog X.w X.K X.mg X.base k f fd ps g) (hr : L2H.RoomH k X.A) (hp : (a, oe) ∈ X.pn)
    (hmc : X.mg (Str.ofString c) = some (.ref D)) (hz : Zc (.ref D) none oe) (hv : ∃ vs, oe.data = .fields vs) (hg : Gl X x) (hm : X.mg x = some (.ref f)) (hk : PySem.W.keepIn X.K (.ref f) = true) (hb : Binds X.K fd ps []) (tk : Takes X W) (hN : X.N[i]? = some y) (hl : ps.length = 1 := by rfl)
    (hvi : Vis X.env.scope y := by first | exact Or.inl rfl | exact Or.inr (Or.inl rfl) | exact Or.inr (Or.inr rfl)) (hd : (y == ("__debug__" : Str)) = false := by decide) (hcd : (y == ("__classdict__" : Str)) = false := by decide) (hdb : (x == ("__debug__" : Str)) = false := by decide)
    (he : starEach [.Name y p2] X.env = (false, eval (.Name y p2) X.env) :: starEach [] X.env := by rfl) (hpl : (backTo pos (starEach [] X.env)).any (·.1) = false := by rfl) :
    EV X W (.Call (.Name x p) [.Name y p2] [] pos) (eExc i a (g c)) := by
  refine ⟨fun pins s σ H Q I h => ?_⟩
  obtain ⟨F, env, rl, h⟩ := h
  obtain ⟨el, h⟩ := eExc_of rl h
  refine wpAny_Call_Name_kw (ld_glob I hg hm ?_ hdb)
  refine PySem.W.callWith_K (h₀ := X.base) I.ok.mod.kin hk (thn ((pa_cons (pe_var (pos := p2) hN hvi hd hcd) pa_nil he).run pos pins s σ H (fun vs H2 => vs = [.ref a] ∧ H2 = H) I ⟨.ref a, el, rfl, rfl⟩) fun us s1 hh => ?_) he hpl
  obtain ⟨vs, H1, I1, r, rfl, rfl⟩ := hh
  refine ⟨I1.kIn, run_fnE (E := WE W σ) Fn hr hp hmc hz hv hb hl (passAt tk σ) I1 r ⟨F, rl.sub, ?_⟩⟩
  cases e : g c with
  | ok r => rw [e] at h; exact h
  | ex c => rw [e] at h; exact h
  | st => rw [e] at h; exact h

/-! ### try: body, except C as n: suite -/
def endAt (i : Nat) (o : SO) : SO := match o with
  | .nx e => .nx (e.set i .un)
  | .bk e => .bk (e.set i .un)
  | .ct e => .ct (e.set i .un)
  | .rt r => .rt r
  | .ex _ _ => .st
  | .st => .st
def sTry (i : Nat) (sub : String → Option Bool) (b : Stx) (hs : String → Addr → Stx) : Stx := fun env => match b env with
  | .ex c e => (match sub c with
    | some true => sameS fun a => endAt i (hs c a (e.set i (.exc a)))
    | some false => .ex c e
    | none => .st)
  | o => o
theorem SRel.exc {F0 H0 F H : Hp} {σ : Sg} {env : Env} (r : SRel K F0 H0 F H σ env) (i : Nat) (a : Addr) : SRel K F0 H0 F H (σ.set i (some (.ref a))) (env.set i (.exc a)) := by
  have key : ∀ {j : Nat} {t : Slot}, (env.set i (.exc a))[j]? = some t → (j = i ∧ t = .exc a) ∨ (j ≠ i ∧ env[j]? = some t ∧ (σ.set i (some (.ref a)))[j]? = σ[j]?) := fun {j t} q => by
    by_cases hj : j = i
    · subst hj
      have hi : j < env.length := by
        have := (List.getElem?_eq_some_iff.mp q).1
        rw [List.length_set] at this
        exact this
      rw [List.getElem?_set_self hi] at q
      cases q
      exact .inl ⟨rfl, rfl⟩
    · rw [List.getElem?_set_ne (Ne.symm hj)] at q
      exact .inr ⟨hj, q, List.getElem?_set_ne (Ne.symm hj)⟩
  refine ⟨⟨r.rel.sub, by rw [List.length_set, List.length_set]; exact r.rel.len, fun j d q => ?_, fun j d q => ?_, fun j k d e l q1 q2 q3 q4 => ?_, fun j c q => ?_⟩, r.ext, fun j d l q1 q2 => ?_⟩
  · rcases key q with ⟨_, z⟩ | ⟨_, z, e⟩
    · cases z
    · rw [e]; exact r.rel.sh j d z
  · rcases key q with ⟨_, z⟩ | ⟨_, z, e⟩
    · cases z
    · rw [e]; exact r.rel.ow j d z
  · rcases key q1 with ⟨_, z⟩ | ⟨_, z, e⟩
    · cases z
    · rcases key q2 with ⟨_, z2⟩ | ⟨_, z2, e2⟩
      · cases z2
      · rw [e] at q3
        rw [e2] at q4
        exact r.rel.sep j k d _ l z z2 q3 q4
  · rcases key q with ⟨rfl, z⟩ | ⟨_, z, e⟩
    · cases z
      have hi : j < env.length := by
        have := (List.getElem?_eq_some_iff.mp q).1
        rw [List.length_set] at this
        exact this
      exact List.getElem?_set_self (by rw [r.rel.len]; exact hi)
    · rw [e]; exact r.rel.ex j c z
  · rcases key q1 with ⟨_, z⟩ | ⟨_, z, e⟩
    · cases z
    · rw [e] at q2; exact r.own j d l z q2
theorem SRel.gone {F0 H0 F H : Hp} {σ : Sg} {env : Env} (r : SRel K F0 H0 F H σ env) (i : Nat) : SRel K F0 H0 F H (σ.set i none) (env.set i .un) := by
  have key : ∀ {j : Nat} {t : Slot}, (env.set i .un)[j]? = some t → t = .un ∨ (env[j]? = some t ∧ (σ.set i none)[j]? = σ[j]?) := fun {j t} q => by
    by_cases hj : j = i
    · subst hj
      have hi : j < env.length := by
        have := (List.getElem?_eq_some_iff.mp q).1
        rw [List.length_set] at this
        exact this
      rw [List.getElem?_set_self hi] at q
      cases q
      exact .inl rfl
    · rw [List.getElem?_set_ne (Ne.symm hj)] at q
      exact .inr ⟨q, List.getElem?_set_ne (Ne.symm hj)⟩
  refine ⟨⟨r.rel.sub, by rw [List.length_set, List.length_set]; exact r.rel.len, fun j d q => ?_, fun j d q => ?_, fun j k d e l q1 q2 q3 q4 => ?_, fun j c q => ?_⟩, r.ext, fun j d l q1 q2 => ?_⟩
  · rcases key q with z | ⟨z, e⟩
    · cases z
    · rw [e]; exact r.rel.sh j d z
  · rcases key q with z | ⟨z, e⟩
    · cases z
    · rw [e]; exact r.rel.ow j d z
  · rcases key q1 with z | ⟨z, e⟩
    · cases z
    · rcases key q2 with z2 | ⟨z2, e2⟩
      · cases z2
      · rw [e] at q3
        rw [e2] at q4
        exact r.rel.sep j k d _ l z z2 q3 q4
  · rcases key q with z | ⟨z, e⟩
    · cases z
    · rw [e]; exact r.rel.ex j c z
  · rcases key q1 with z | ⟨z, e⟩
    · cases z
    · rw [e] at q2; exact r.own j d l z q2
/-- no exception leaves a suite -/
theorem takes_never {X : Cx} : Takes X (fun _ _ _ _ => False) := fun u s' h => by
  obtain ⟨_, _, _, _, _, _, _, _, _, _, _, _, _, _, _, _, z⟩ := h
  exact z.elim
/-- what the suite wishes -/
def tsE (K : PySem.W.Frag) (mg : Str → Option Value) (sub : String → Option Bool) (hs : String → Addr → Stx) (a : Addr) (cls : Value) (d : Option Addr) : TS := fun E σ H =>
  ∃ (c : String) (D : Addr) (F0 H0 F : Hp) (env : Env), cls = .ref D ∧ d = none ∧ sub c = some true ∧ mg (Str.ofString c) = some cls ∧ SRel K F0 H0 F H σ env ∧ okS K mg (fun _ _ _ _ => False) F0 H0 E (hs c a env)
theorem sv_try {i : Nat} {x n : Str} {cV : Value} {np pos' : Pos} {body suite : List Stmt} {b₀ : Stmt} {sub : String → Option Bool} {b : Stx} {hs : String → Addr → Stx} (h1 : X.stack = X.env :: X.outer) (h2 : X.env.frame = some X.env.locals) (hN : X.N.Nodup) (hi : X.N[i]? = some n) (hln : X.env.kindOf n = some .local) (hc : Names X x cV) (tk : Takes X W)
    (hsub : ∀ c b, sub c = some b → ∀ cls, X.mg (Str.ofString c) = some cls → PySem.W.exmOne X.K cls cV = some b ∧ ∃ D, cls = .ref D)
    (hb : ∀ (W' : WX) (pn : List (Addr × Obj)) (xe : Value → Shared → Prop), Takes (X.tr pn xe) W' → PassesOwn (model X.prog X.w) X.A X.env xe → SVs (X.tr pn xe) W' body b)
    (hsu : ∀ (c : String) (a : Addr) (oe : Obj) (D : Addr) (pn : List (Addr × Obj)), sub c = some true → X.mg (Str.ofString c) = some (.ref D) → Zc (.ref D) none oe → (∃ vs, oe.data = .fields vs) → SVs (X.suite a ((a, oe) :: pn)) (fun _ _ _ _ => False) (b₀ :: suite) (hs c a)) :
    SV X W (.Try body [.ExceptHandler (some (.Name x np)) (some n) (b₀ :: suite) pos'] [] [] pos) (sTry i sub b hs) :=
  (L2.ps_try_as (ts := tsE X.K X.mg sub hs) (tb := fun W' => tS X.K X.mg W' b) h1 h2 hN hi hln hc tk (fun W' pn xe tk' hp => hb W' pn xe tk' hp) (fun a oe cls d pn hz hv => ⟨fun pins s σ H E I h => by
    obtain ⟨c, D, F0, H0, F, env, rfl, rfl, hok, m, rl, z⟩ := h
    exact (hsu c a oe D pn hok m hz hv).run pins s σ H E I ⟨F0, H0, F, env, rl, z⟩⟩)).imp fun E σ H z => by
  obtain ⟨F0, H0, F, env, rl, z⟩ := z
  refine ⟨F0, H0, F, env, rl, ?_⟩
  unfold sTry at z
  cases e : b env with
  | ex c e' =>
    simp only [e] at z
    intro F1 H1 σ1 cls r1 m
    cases es : sub c with
    | none => simp only [es] at z; exact z.elim
    | some bb =>
      simp only [es] at z
      obtain ⟨hx, D, rfl⟩ := hsub c bb es cls m
      refine ⟨bb, hx, fun hbt a na => ?_, fun hbf => ?_⟩
      · subst hbt
        simp only [] at z
        have ne : (sameS fun a => endAt i (hs c a (e'.set i (.exc a)))) ≠ .st := fun y => by rw [y] at z; exact z
        have ea := sameS_at ne a
        rw [← ea] at z
        refine ⟨c, D, F0, H0, F1, e'.set i (.exc a), rfl, rfl, es, m, r1.exc i a, ?_⟩
        cases e2 : hs c a (e'.set i (.exc a)) <;> simp only [e2, endAt] at z
        · exact fun F2 H2 σ2 r2 => z F2 H2 _ (r2.gone i)
        · exact fun F2 H2 v x q => z F2 H2 v x q
        · exact fun F2 H2 σ2 r2 => z F2 H2 _ (r2.gone i)
        · exact fun F2 H2 σ2 r2 => z F2 H2 _ (r2.gone i)
        · exact z.elim
        · exact z.elim
      · subst hbf
        simp only [] at z
        exact z F1 H1 σ1 _ r1 m
  | nx e' => simp only [e] at z; exact z
  | rt r => simp only [e] at z; exact z
  | bk e' => simp only [e] at z; exact z
  | ct e' => simp only [e] at z; exact z
  | st => simp only [e] at z; exact z
end
end
end Fs

set_option maxHeartbeats 4000000
namespace Fs
open PySem PySem.Spec PyProof.Rows L2

/-! ### min where the comparison looks at objects: O says what stands in the heap -/
section
variable {P : Program} {w : World} {A : Around} {R : Result → Shared → Prop} {I S : Addr} {fp wr : List Addr} {n : Nat} {Pv : Nat → Value → Prop} {St : Nat → Heap → Prop} {O : Heap → Prop} {bt : Nat → Nat → Bool}
/-- O outlives the loop's own writes -/
def Lasts (wr : List Addr) (S : Addr) (O : Heap → Prop) : Prop := ∀ h h', O h → (∀ b o, b ∉ wr → b ≠ S → h.get? b = some o → h'.get? b = some o) → O h'
/-- v ≤ u is asked where O stands -/
def LtIn (P : Program) (w : World) (A : Around) (O : Heap → Prop) (Pv : Nat → Value → Prop) (bt : Nat → Nat → Bool) : Prop :=
  ∀ i j x y (s : Shared) (Q : Value → Shared → Prop) (E : Value → Shared → Prop), O s.heap → Pv i x → Pv j y → Q (.bool (bt i j)) s → wpAny (model P w) A (richCompare .Lt x y) Q E s
theorem min_turns (Wk : Walks P w A.in1 I fp wr n Pv St) (lasts : Lasts wr S O) (lt : LtIn P w A.in1 O Pv bt) (hf : S ∉ fp) : ∀ (left j : Nat) (s : Shared) (best : Value) (c : Nat), j + 1 + left = n → St (j + 1) s.heap → O s.heap → Pv (argBest bt j) best →
    s.heap.get? S = some { cls := .type "list", dict := none, data := .seq #[best, best] c, slots := #[] } →
    (∀ v h' tk, Pv (argBest bt (n - 1)) v → (∀ b o, b ∉ wr → b ≠ S → s.heap.get? b = some o → h'.get? b = some o) → R (.ok (.ret v)) { s with heap := h', toks := tk }) →
    codeAny (model P w) A (.builtin "min.loop" ⟨[.ref I, .none, .ref S], []⟩) R s := by
  have nw : S ∉ wr := fun z => hf (Wk.sub _ z)
  have nm : (toString "min" ++ toString ".loop" : String) = "min.loop" := by decide
  intro left
  induction left with
  | zero =>
    intro j s best c hj st ho hp gS fin
    refine codeAny_builtin F.entry_min_loop ?_
    rw [Around.under_plainId F.plain_min_loop _]
    refine wpAny_bind (m := seqItems? (.ref S)) (wpAny_seqItems gS rfl ?_)
    refine wpAny_bind (m := tryCatch (pyNext (.ref I)) _) (wpAny_tryCatch (Wk.done s _ _ (by rw [← hj]; exact st) fun h' tk kp => ?_))
    refine wpAny_bind (m := updateSeq S _) ?_
    exact wpAny_updateSeq (kp S _ nw gS) rfl (wpAny_bind (wpAny_letGo (wpAny_pure (fin best _ tk (by rw [← hj]; exact hp) fun b o b1 b2 e => (Heap.get?_update_other _ _ (Ne.symm b2)).trans (kp b o b1 e)))))
  | succ left ih =>
    intro j s best c hj st ho hp gS fin
    refine codeAny_builtin F.entry_min_loop ?_
    rw [Around.under_plainId F.plain_min_loop _]
    refine wpAny_bind (m := seqItems? (.ref S)) (wpAny_seqItems gS rfl ?_)
    refine wpAny_bind (m := tryCatch (pyNext (.ref I)) _) (wpAny_tryCatch (Wk.item (j + 1) s _ _ (by omega) st fun v h' tk hv st' kp => ?_))
    have g2 := kp S _ nw gS
    have ho2 : O h' := lasts _ _ ho fun b o b1 b2 e => kp b o b1 e
    refine wpAny_bind (m := tryCatch (holding [v, v] _) _) (wpAny_tryCatch (wpAny_holding (wpAny_bind (lt (j + 1) (argBest bt j) v best _ _ _ ho2 hv hp ?_))))
    refine wpAny_bind (wpAny_holding (wpAny_truthy_bool (wpAny_bind (wpAny_letGo (wpAny_pure ?_)))))
    cases hb : bt (j + 1) (argBest bt j) with
    | true =>
      simp only [if_true]
      refine wpAny_bind (wpAny_updateSeq g2 rfl (wpAny_bind (wpAny_letGo ?_)))
      rw [nm]
      have more : ∀ b o, b ∉ wr → b ≠ S → h'.get? b = some o → (h'.update S (Obj.mapSeq fun _ => #[v, v])).get? b = some o := fun b o b1 b2 e => (Heap.get?_update_other _ _ (Ne.symm b2)).trans e
      refine wpAny_pure ⟨plainId_quiet F.plain_min_loop _, ih (j + 1) _ v _ (by omega) (Wk.frame _ _ _ st' fun b hb2 o e => ?_) (lasts _ _ ho2 fun b o b1 b2 e => ?_) (by simp only [argBest, hb, if_true]; exact hv) (Heap.get?_update_self _ g2 rfl)
        fun v' h2 tk2 hp2 kp2 => fin v' h2 tk2 hp2 fun b o b1 b2 e => kp2 b o b1 b2 ?_⟩
      · exact (Heap.get?_update_other _ _ (fun z : S = b => hf (by rw [z]; exact hb2))).trans e
      · exact (Heap.get?_update_other _ _ (Ne.symm b2)).trans e
      · exact (Heap.get?_update_other _ _ (Ne.symm b2)).trans (kp b o b1 e)
    | false =>
      simp only [Bool.false_eq_true, if_false]
      refine wpAny_bind (wpAny_letGo ?_)
      rw [nm]
      exact wpAny_pure ⟨plainId_quiet F.plain_min_loop _, ih (j + 1) _ best c (by omega) st' ho2 (by simp only [argBest, hb, Bool.false_eq_true, if_false]; exact hp) g2
        fun v' h2 tk2 hp2 kp2 => fin v' h2 tk2 hp2 fun b o b1 b2 e => kp2 b o b1 b2 (kp b o b1 e)⟩
theorem min_first (Wk : Walks P w A.in1 I fp wr n Pv St) (lasts : Lasts wr S O) (lt : LtIn P w A.in1 O Pv bt) (hf : S ∉ fp) (hn : 0 < n) {s : Shared} {c : Nat} (st : St 0 s.heap) (ho : O s.heap)
    (gS : s.heap.get? S = some { cls := .type "list", dict := none, data := .seq #[] c, slots := #[] })
    (fin : ∀ v h' tk, Pv (argBest bt (n - 1)) v → (∀ b o, b ∉ wr → b ≠ S → s.heap.get? b = some o → h'.get? b = some o) → R (.ok (.ret v)) { s with heap := h', toks := tk }) :
    codeAny (model P w) A (.builtin "min.loop" ⟨[.ref I, .none, .ref S], []⟩) R s := by
  have nw : S ∉ wr := fun z => hf (Wk.sub _ z)
  have nm : (toString "min" ++ toString ".loop" : String) = "min.loop" := by decide
  refine codeAny_builtin F.entry_min_loop ?_
  rw [Around.under_plainId F.plain_min_loop _]
  refine wpAny_bind (m := seqItems? (.ref S)) (wpAny_seqItems gS rfl ?_)
  refine wpAny_bind (m := tryCatch (pyNext (.ref I)) _) (wpAny_tryCatch (Wk.item 0 s _ _ hn st fun v h' tk hv st' kp => ?_))
  have g2 := kp S _ nw gS
  refine wpAny_bind (m := updateSeq S _) (wpAny_updateSeq g2 rfl ?_)
  rw [nm]
  refine wpAny_pure ⟨plainId_quiet F.plain_min_loop _, min_turns Wk lasts lt hf (n - 1) 0 _ v _ (by omega) (Wk.frame _ _ _ st' fun b hb2 o e => ?_) (lasts _ _ ho fun b o b1 b2 e => ?_) hv (Heap.get?_update_self _ g2 rfl)
    fun v' h2 tk2 hp2 kp2 => fin v' h2 tk2 hp2 fun b o b1 b2 e => kp2 b o b1 b2 ?_⟩
  · exact (Heap.get?_update_other _ _ (fun z : S = b => hf (by rw [z]; exact hb2))).trans e
  · exact (Heap.get?_update_other _ _ (Ne.symm b2)).trans (kp b o b1 e)
  · exact (Heap.get?_update_other _ _ (Ne.symm b2)).trans (kp b o b1 e)
end
section
variable {P : Program} {w : World} {A : Around} {E : Value → Shared → Prop} {s : Shared}
/-- what min asks of the walk over its things -/
def MinAsk (P : Program) (w : World) (A : Around) (s2 : Shared) (it : Value) (Q : Value → Shared → Prop) : Prop :=
  ∃ (I : Addr) (fp wr : List Addr) (n : Nat) (Pv : Nat → Value → Prop) (St : Nat → Heap → Prop) (O : Heap → Prop) (bt : Nat → Nat → Bool), it = .ref I ∧ Walks P w A.in1 I fp wr n Pv St ∧ St 0 s2.heap ∧ (∀ b ∈ fp, b < s2.heap.objs.size) ∧ 0 < n ∧
    Lasts wr s2.heap.objs.size O ∧ O s2.heap ∧ LtIn P w A.in1 O Pv bt ∧ ∀ v h' tk, Pv (argBest bt (n - 1)) v → (∀ b o, b ∉ wr → s2.heap.get? b = some o → h'.get? b = some o) → Q v { s2 with heap := h', toks := tk }
theorem min_of_one {x : Value} {Q : Value → Shared → Prop} (h : wpAny (model P w) A.in1 (pyIter x) (fun it s2 => MinAsk P w A s2 it Q) E s) : wpAny (model P w) A (call (.builtin "min") [x]) Q E s := by
  have nm : (toString "min" ++ toString ".loop" : String) = "min.loop" := by decide
  refine call_function_tree F.kind_min F.plain_min F.entry_min (F.args_min1 _) ?_
  refine wpAny_bind (m := Builtin.Builtins.bindParams "min" ["key", "default"] 0 ⟨[], []⟩) (wpAny_of_eq (a := [none, none]) rfl ?_)
  refine wpAny_bind (wpAny_pure (wpAny_bind (wpAny_mono h (fun it s2 m => ?_) fun _ _ e => e)))
  obtain ⟨I, fp, wr, n, Pv, St, O, bt, rfl, W, st, hfp, hn, lasts, ho, lt, q⟩ := m
  refine wpAny_bind (wpAny_newObj_type ?_)
  have hf : s2.heap.objs.size ∉ fp := fun z => Nat.lt_irrefl _ (hfp _ z)
  rw [nm]
  refine wpAny_pure ⟨plainId_quiet F.plain_min_loop _, min_first W lasts lt hf hn (W.frame _ _ _ st fun b _ o e => Heap.get?_push_of_some _ e) (lasts _ _ ho fun b o _ _ e => Heap.get?_push_of_some _ e) (Heap.get?_push_size _ rfl) fun v h' tk hp kp => ?_⟩
  exact q v h' tk hp fun b o b1 e => kp b o b1 (Nat.ne_of_lt (Heap.lt_size e)) (Heap.get?_push_of_some _ e)
theorem min_of_two {x y : Value} {Q : Value → Shared → Prop} (h : wpAny (model P w) A.in1 (pyIter (.ref s.heap.objs.size)) (fun it s2 => MinAsk P w A s2 it Q) E { s with heap := s.heap.push { cls := .type "tuple", data := .seq #[x, y] } }) :
    wpAny (model P w) A (call (.builtin "min") [x, y]) Q E s := by
  have nm : (toString "min" ++ toString ".loop" : String) = "min.loop" := by decide
  refine call_function_tree F.kind_min F.plain_min F.entry_min (F.args_min2 _ _) ?_
  refine wpAny_bind (m := Builtin.Builtins.bindParams "min" ["key", "default"] 0 ⟨[], []⟩) (wpAny_of_eq (a := [none, none]) rfl ?_)
  refine wpAny_bind (m := newTuple [x, y]) (wpAny_newObj_type (wpAny_bind (wpAny_mono h (fun it s2 m => ?_) fun _ _ e => e)))
  obtain ⟨I, fp, wr, n, Pv, St, O, bt, rfl, W, st, hfp, hn, lasts, ho, lt, q⟩ := m
  refine wpAny_bind (wpAny_newObj_type ?_)
  have hf : s2.heap.objs.size ∉ fp := fun z => Nat.lt_irrefl _ (hfp _ z)
  rw [nm]
  refine wpAny_pure ⟨plainId_quiet F.plain_min_loop _, min_first W lasts lt hf hn (W.frame _ _ _ st fun b _ o e => Heap.get?_push_of_some _ e) (lasts _ _ ho fun b o _ _ e => Heap.get?_push_of_some _ e) (Heap.get?_push_size _ rfl) fun v h' tk hp kp => ?_⟩
  exact q v h' tk hp fun b o b1 e => kp b o b1 (Nat.ne_of_lt (Heap.lt_size e)) (Heap.get?_push_of_some _ e)
/-! ### of tuples of whole numbers -/
/-- the tuples stand in the heap -/
def TupsIn (vs : List Value) (nss : List (List Int)) (h : Heap) : Prop := ∀ i v, vs[i]? = some v → ∃ a its, v = .ref a ∧ IsTup h a its ∧ IntsAre its.toList (nss.getD i [])
theorem tups_last {wr : List Addr} {S : Addr} {vs : List Value} {nss : List (List Int)} (hw : ∀ v ∈ vs, ∀ a, v = .ref a → a ∉ wr ∧ a ≠ S) : Lasts wr S (TupsIn vs nss) := fun h h' ho kp i v e => by
  obtain ⟨a, its, rfl, ⟨o, g, r⟩, hi⟩ := ho i v e
  obtain ⟨w1, w2⟩ := hw _ (List.mem_of_getElem? e) a rfl
  exact ⟨a, its, rfl, ⟨o, kp a o w1 w2 g, r⟩, hi⟩
theorem tups_lt (hu : A.units < cLine) {vs : List Value} {nss : List (List Int)} : LtIn P w A (TupsIn vs nss) (fun i v => vs[i]? = some v) (fun i j => HT.lexLt (nss.getD i []) (nss.getD j [])) := fun i j x y s Q E ho hx hy q => by
  obtain ⟨a, its, rfl, t1, i1⟩ := ho i x hx
  obtain ⟨b, its2, rfl, t2, i2⟩ := ho j y hy
  exact HT.lt_tupInts t1 t2 i1 i2 hu q
end
/-- the place of the least -/
def leastAt (nss : List (List Int)) : Nat := argBest (fun i j => HT.lexLt (nss.getD i []) (nss.getD j [])) (nss.length - 1)
theorem argBest_le (bt : Nat → Nat → Bool) : ∀ n, argBest bt n ≤ n
  | 0 => Nat.le_refl _
  | n + 1 => by
    unfold argBest
    split
    · exact Nat.le_refl _
    · exact Nat.le_succ_of_le (argBest_le bt n)
theorem leastAt_lt {nss : List (List Int)} (h : 0 < nss.length) : leastAt nss < nss.length := by
  have := argBest_le (fun i j => HT.lexLt (nss.getD i []) (nss.getD j [])) (nss.length - 1)
  unfold leastAt
  omega
section
variable {X : Cx} {K : PySem.W.Frag} {F H : Hp}
/-- a list of tuples of whole numbers -/
def TupL (K : PySem.W.Frag) (H : Hp) (xs : List V) (nss : List (List Int)) : Prop := xs.length = nss.length ∧ ∀ (i : Nat) (x : V), xs[i]? = some x → ∃ a, x = .ref a ∧ SqT K H a ((nss.getD i []).map V.int)
theorem tups_in {pins : List (Addr × Obj)} {σ : Sg} {s : Shared} {xs : List V} {us : List Value} {nss : List (List Int)} (I : L2.Inv X pins σ H s) (t : TupL X.K H xs nss) (r : Vals xs us) : TupsIn us nss s.heap := fun i v e => by
  have hl := r.length
  have hi : i < xs.length := by
    have := (List.getElem?_eq_some_iff.mp e).1
    omega
  obtain ⟨u, hu, rv⟩ := r.get (List.getElem?_eq_getElem hi)
  rw [e] at hu
  cases hu
  obtain ⟨a, ex, q⟩ := t.2 i _ (List.getElem?_eq_getElem hi)
  rw [ex] at rv
  obtain rfl : v = Value.ref a := rv
  obtain ⟨its, rvs, p, _⟩ := I.tuple q
  exact ⟨a, its.toArray, rfl, p, by simpa using rvs.ints⟩
def rMinT (K : PySem.W.Frag) : List V → Hp → VK → Prop := fun vs H Q => ∃ (l : Addr) (xs : List V) (nss : List (List Int)) (x : V), vs = [.ref l] ∧ SqL K H l xs ∧ TupL K H xs nss ∧ xs[leastAt nss]? = some x ∧ Q x H
theorem cr_minT (hu : X.A.units + 66 < cLine) (hc : X.calm = true) : CallR X (.builtin "min") (rMinT X.K) := by
  intro pins s σ H vs us Q I r h
  obtain ⟨l, xs, nss, x, rfl, hs, ht, hx, q⟩ := h
  obtain ⟨its, rv, pl, _⟩ := I.list hs
  rw [Vals.ref1 r]
  have hl := rv.length
  have hlt : l < s.heap.objs.size := pl.lt
  have hn : 0 < its.toArray.size := by
    have := (List.getElem?_eq_some_iff.mp hx).1
    simp
    omega
  have tin := tups_in I ht rv
  refine min_of_one (wpAny_pyIter_list pl.isList ?_)
  have old : ∀ v ∈ its, ∀ a, v = .ref a → a < s.heap.objs.size := fun v hv a e => by
    obtain ⟨i, hi⟩ := List.getElem?_of_mem hv
    obtain ⟨b, t, eb, ⟨o, g, _⟩, _⟩ := tin i v hi
    rw [e] at eb
    cases eb
    exact Heap.lt_size g
  refine ⟨_, [s.heap.objs.size, l], [s.heap.objs.size], its.toArray.size, _, _, TupsIn its nss, fun i j => HT.lexLt (nss.getD i []) (nss.getD j []), rfl, Walks.list (A := X.A.in1) (by simp [I.ok.hd hc]) _ l (Nat.ne_of_lt hlt) its.toArray, ⟨⟨_, Heap.get?_push_size _ rfl, rfl, rfl⟩, pl.isList.push _⟩, fun b hb => ?_, hn,
    tups_last fun v hv a e => ?_, fun i v e => ?_, ?_, fun v h' tk hp kp => ?_⟩
  · rw [Heap.size_push]
    rcases List.mem_cons.mp hb with rfl | hb
    · exact Nat.lt_succ_self _
    · rw [List.mem_singleton.mp hb]; exact Nat.lt_succ_of_lt hlt
  · have := old v hv a e
    rw [Heap.size_push]
    exact ⟨fun z => Nat.ne_of_lt this (List.mem_singleton.mp z), Nat.ne_of_lt (Nat.lt_succ_of_lt this)⟩
  · obtain ⟨a, t, e1, ⟨o, g, r'⟩, hi⟩ := tin i v e
    exact ⟨a, t, e1, ⟨o, Heap.get?_push_of_some _ g, r'⟩, hi⟩
  · have := tups_lt (P := X.prog) (w := X.w) (A := X.A.in1) (vs := its) (nss := nss) (by show X.A.units + 1 < cLine; omega)
    intro i j x y s Q E ho hx hy q
    exact this i j x y s Q E ho (by simpa using hx) (by simpa using hy) q
  · have e1 : leastAt nss = argBest (fun i j => HT.lexLt (nss.getD i []) (nss.getD j [])) (its.toArray.size - 1) := by
      unfold leastAt
      have := ht.1
      have : nss.length - 1 = its.toArray.size - 1 := by simp; omega
      rw [this]
    rw [← e1] at hp
    obtain ⟨u, hu2, rx⟩ := rv.get hx
    have e2 : its[leastAt nss]? = some v := by simpa using hp
    rw [hu2] at e2
    cases e2
    exact ⟨x, H, I.kept fun b o e => kp b o (fun z => Nat.ne_of_lt (Heap.lt_size e) (List.mem_singleton.mp z)) (Heap.get?_push_of_some _ e), rx, q⟩
def rMinT2 (K : PySem.W.Frag) : List V → Hp → VK → Prop := fun vs H Q => ∃ (a b : Addr) (ns ms : List Int), vs = [.ref a, .ref b] ∧ SqT K H a (ns.map V.int) ∧ SqT K H b (ms.map V.int) ∧ Q (.ref (if HT.lexLt ms ns = true then b else a)) H
theorem cr_minT2 (hu : X.A.units + 66 < cLine) (hc : X.calm = true) : CallR X (.builtin "min") (rMinT2 X.K) := by
  intro pins s σ H vs us Q I r h
  obtain ⟨a, b, ns, ms, rfl, ha, hb, q⟩ := h
  obtain ⟨u1, u2, rfl, r1, r2⟩ := Vals.two r
  obtain rfl : u1 = Value.ref a := r1
  obtain rfl : u2 = Value.ref b := r2
  have tin : TupsIn [.ref a, .ref b] [ns, ms] s.heap := tups_in (xs := [.ref a, .ref b]) I ⟨rfl, fun i x e => by
    match i, e with
    | 0, e => cases e; exact ⟨a, rfl, ha⟩
    | 1, e => cases e; exact ⟨b, rfl, hb⟩⟩ r
  have old : ∀ v ∈ [Value.ref a, .ref b], ∀ c, v = .ref c → c < s.heap.objs.size := fun v hv c e => by
    obtain ⟨i, hi⟩ := List.getElem?_of_mem hv
    obtain ⟨d, t, eb, ⟨o, g, _⟩, _⟩ := tin i v hi
    rw [e] at eb
    cases eb
    exact Heap.lt_size g
  refine min_of_two (wpAny_pyIter_tuple (items := #[.ref a, .ref b]) ⟨_, Heap.get?_push_size _ rfl, rfl, _, rfl⟩ ?_)
  have sz : (s.heap.push { cls := .type "tuple", data := .seq #[.ref a, .ref b] }).objs.size = s.heap.objs.size + 1 := Heap.size_push ..
  have gI : ((s.heap.push { cls := .type "tuple", data := .seq #[.ref a, .ref b] }).push { cls := .type "tuple_iterator", data := .fields #[.ref s.heap.objs.size, .int 0 0] }).get? (s.heap.objs.size + 1) = some { cls := .type "tuple_iterator", data := .fields #[.ref s.heap.objs.size, .int 0 0] } := by
    rw [← sz]; exact Heap.get?_push_size _ rfl
  refine ⟨_, [s.heap.objs.size + 1, s.heap.objs.size], [s.heap.objs.size + 1], 2, _, _, TupsIn [.ref a, .ref b] [ns, ms], fun i j => HT.lexLt ([ns, ms].getD i []) ([ns, ms].getD j []), by rw [sz], Walks.tuple (A := X.A.in1) (by simp [I.ok.hd hc]) _ s.heap.objs.size (Nat.ne_of_lt (Nat.lt_succ_self _)) #[.ref a, .ref b], ⟨⟨_, gI, rfl, rfl⟩, ?_⟩, fun c hc2 => ?_, by decide,
    tups_last fun v hv c e => ?_, fun i v e => ?_, ?_, fun v h' tk hp kp => ?_⟩
  · exact ⟨_, Heap.get?_push_of_some _ (Heap.get?_push_size _ rfl), rfl, _, rfl⟩
  · rw [Heap.size_push, sz]
    rcases List.mem_cons.mp hc2 with rfl | hc2
    · exact Nat.lt_succ_self _
    · rw [List.mem_singleton.mp hc2]; exact Nat.lt_succ_of_lt (Nat.lt_succ_self _)
  · have := old v hv c e
    rw [Heap.size_push, sz]
    exact ⟨fun z => Nat.ne_of_lt (Nat.lt_succ_of_lt this) (List.mem_singleton.mp z), Nat.ne_of_lt (Nat.lt_succ_of_lt (Nat.lt_succ_of_lt this))⟩
  · obtain ⟨c, t, e1, ⟨o, g, r'⟩, hi⟩ := tin i v e
    exact ⟨c, t, e1, ⟨o, Heap.get?_push_of_some _ (Heap.get?_push_of_some _ g), r'⟩, hi⟩
  · have := tups_lt (P := X.prog) (w := X.w) (A := X.A.in1) (vs := [.ref a, .ref b]) (nss := [ns, ms]) (by show X.A.units + 1 < cLine; omega)
    intro i j x y s Q E ho hx hy q
    exact this i j x y s Q E ho (by simpa using hx) (by simpa using hy) q
  · have e1 : argBest (fun i j => HT.lexLt ([ns, ms].getD i []) ([ns, ms].getD j [])) (2 - 1) = if HT.lexLt ms ns = true then 1 else 0 := rfl
    rw [e1] at hp
    have e2 : v = .ref (if HT.lexLt ms ns = true then b else a) := by
      cases hlt : HT.lexLt ms ns <;> rw [hlt] at hp <;> simpa using hp.symm
    subst e2
    exact ⟨.ref (if HT.lexLt ms ns = true then b else a), H, I.kept fun c o e => kp c o (fun z => Nat.ne_of_lt (Nat.lt_succ_of_lt (Heap.lt_size e)) (List.mem_singleton.mp z)) (Heap.get?_push_of_some _ (Heap.get?_push_of_some _ e)), rfl, q⟩
/-- the numbers of tuples -/
def tupsOf : List D → Option (List (List Int))
  | [] => some []
  | .tup l :: r => match intsOf l, tupsOf r with
    | some ns, some nss => some (ns :: nss)
    | _, _ => none
  | _ :: _ => none
theorem tupsOf_map : ∀ nss : List (List Int), tupsOf (nss.map fun ns => D.tup (ns.map D.int)) = some nss
  | [] => rfl
  | ns :: nss => by
    rw [List.map_cons]
    unfold tupsOf
    rw [intsOf_map, tupsOf_map nss]
theorem tupsOf_eq : ∀ {ds : List D} {nss : List (List Int)}, tupsOf ds = some nss → ds = nss.map fun ns => D.tup (ns.map D.int)
  | [], nss, e => by cases e; rfl
  | d :: r, nss, e => by
    unfold tupsOf at e
    split at e
    · rename_i q; cases q
    · rename_i l r' q
      cases q
      cases e1 : intsOf l with
      | none => rw [e1] at e; cases e
      | some ns =>
        cases e2 : tupsOf r with
        | none => rw [e1, e2] at e; cases e
        | some mss =>
          rw [e1, e2] at e
          cases e
          rw [intsOf_eq e1, tupsOf_eq e2]
          rfl
    · cases e
theorem tupL_of {F : Hp} (s : Same F H) : ∀ {xs : List V} {nss : List (List Int)}, DRs K F xs (nss.map fun ns => D.tup (ns.map D.int)) → TupL K H xs nss := fun {xs nss} r => by
  refine ⟨by simpa using r.len, fun i x e => ?_⟩
  obtain ⟨d, hd, rd⟩ := r.get' e
  rw [List.getElem?_map] at hd
  cases en : nss[i]? with
  | none => rw [en] at hd; cases hd
  | some ns =>
    rw [en] at hd
    cases hd
    obtain ⟨l, ys, rfl, q, rs⟩ := DV.tup s (.inl rd : DV K F H x _)
    rw [rs.ints] at q
    refine ⟨l, rfl, ?_⟩
    rw [List.getD_eq_getElem?_getD, en]
    exact q
def dMinT : D → Out R
  | .lst ds => match tupsOf ds with
    | some nss => if 0 < nss.length then cD (.tup ((nss.getD (leastAt nss) []).map D.int)) else .st
    | none => .st
  | _ => .st
theorem o1_minT : Op1 K (fun x => rMinT K [x]) dMinT := by
  intro F H x a Q s hx h
  cases a <;> first | exact (False.elim h) | skip
  rename_i ds
  unfold dMinT at h
  cases e : tupsOf ds with
  | none => simp only [e] at h; exact h.elim
  | some nss =>
    simp only [e] at h
    obtain ⟨c, h⟩ := if_some h
    obtain ⟨l, xs, rfl, q1, r1⟩ := hx.lst s
    rw [tupsOf_eq e] at r1
    have hi := leastAt_lt c
    obtain ⟨y, hy, ry⟩ := r1.get (i := leastAt nss) (d := .tup ((nss.getD (leastAt nss) []).map D.int)) (by
      rw [List.getElem?_map, List.getElem?_eq_getElem hi, List.getD_eq_getElem?_getD, List.getElem?_eq_getElem hi]
      rfl)
    exact ⟨l, xs, nss, y, rfl, .of q1, tupL_of s r1, hy, okV_cl s h ry⟩
theorem n_minT : ∀ a, noEx (dMinT a) := by
  intro a; unfold dMinT cD; repeat' (first | trivial | split)
def dMinT2 : D → D → Out R
  | .tup a, .tup b => match intsOf a, intsOf b with
    | some ns, some ms => cD (.tup ((if HT.lexLt ms ns = true then ms else ns).map D.int))
    | _, _ => .st
  | _, _ => .st
theorem o2_minT2 : Op2 K (fun x y => rMinT2 K [x, y]) dMinT2 := by
  intro F H x y a b Q s hx hy h
  cases a <;> first | exact (False.elim h) | skip
  cases b <;> first | exact (False.elim h) | skip
  rename_i as bs
  unfold dMinT2 at h
  cases e1 : intsOf as with
  | none => simp only [e1] at h; exact h.elim
  | some ns =>
    cases e2 : intsOf bs with
    | none => simp only [e1, e2] at h; exact h.elim
    | some ms =>
      simp only [e1, e2] at h
      have hx2 := hx
      have hy2 := hy
      obtain ⟨l, xs, rfl, q1, r1⟩ := hx.tup s
      obtain ⟨l2, ys, rfl, q2, r2⟩ := hy.tup s
      rw [intsOf_eq e1] at r1
      rw [intsOf_eq e2] at r2
      rw [r1.ints] at q1
      rw [r2.ints] at q2
      refine ⟨l, l2, ns, ms, rfl, q1, q2, ?_⟩
      cases hlt : HT.lexLt ms ns with
      | true =>
        rw [hlt] at h
        simp only [if_true] at h
        rw [if_pos rfl]
        have := hy2.tupF
        rw [intsOf_eq e2] at this
        exact okV_cl s h this
      | false =>
        rw [hlt] at h
        simp only [Bool.false_eq_true, if_false] at h
        rw [if_neg Bool.false_ne_true]
        have := hx2.tupF
        rw [intsOf_eq e1] at this
        exact okV_cl s h this
theorem n_minT2 : ∀ a b, noEx (dMinT2 a b) := by
  intro a b; unfold dMinT2 cD; repeat' (first | trivial | split)
end
end Fs

set_option maxHeartbeats 4000000
namespace Fs
open PySem PySem.Spec PyProof.Rows L2
section
variable {X : Cx} {W : WX} {pos : Pos} {K : PySem.W.Frag} {mg : Str → Option Value}
/-! ### xs.append(ys.pop(e)), xs and ys own lists -/
def sPopApp (i j : Nat) (f : Sx) : Stx := fun env => match env[i]?, env[j]? with
  | some (.ow (.lst as)), some (.ow (.lst bs)) => (match f env with
    | .ok r => (match r.d with
      | .int n => if 0 ≤ n ∧ n < bs.length ∧ as.length < 16777216 ∧ bs.length ≤ 16777216 ∧ i ≠ j then (match bs[n.toNat]? with
        | some d => .nx ((env.set j (.ow (.lst (bs.eraseIdx n.toNat)))).set i (.ow (.lst (as ++ [d]))))
        | none => .st) else .st
      | _ => .st)
    | .ex c => .ex c env
    | .st => .st)
  | _, _ => .st
theorem seqIndex_nat {n : Int} {m : Nat} (h : 0 ≤ n) (h2 : n < m) : seqIndex? n m = some n.toNat := by
  unfold seqIndex?
  simp
  omega
theorem sv_popApp {i j : Nat} {e : Expr} {f : Sx} (hbm : PE X e (tBM X.K "list" rAppend (tVar i) (tCons (tBM X.K "list" rPopAt (tVar j) (tCons (tE X.K X.mg W f) tNil)) tNil))) (hs : swapsWith e none pos.line X.env = pure false := by rfl) :
    SV X W (.Expr e pos) (sPopApp i j f) := (ps_expr hbm hs).imp fun E σ H z => by
  obtain ⟨F0, H0, F, env, rl, z⟩ := z
  unfold sPopApp at z
  cases ei : env[i]? with
  | none => simp only [ei] at z; exact z.elim
  | some si =>
    cases si with
    | un => simp only [ei] at z; exact z.elim
    | exc _ => simp only [ei] at z; exact z.elim
    | sh d => simp only [ei] at z; exact z.elim
    | ow di =>
      cases di <;> simp only [ei] at z <;> first | exact z.elim | skip
      rename_i as
      cases ej : env[j]? with
      | none => simp only [ej] at z; exact z.elim
      | some sj =>
        cases sj with
        | un => simp only [ej] at z; exact z.elim
        | exc _ => simp only [ej] at z; exact z.elim
        | sh d => simp only [ej] at z; exact z.elim
        | ow dj =>
          cases dj <;> simp only [ej] at z <;> first | exact z.elim | skip
          rename_i bs
          obtain ⟨l1, el1, fl1, o1⟩ := rl.rel.ow i _ ei
          obtain ⟨l2, el2, fl2, o2⟩ := rl.rel.ow j _ ej
          refine ⟨.ref l1, el1, tyV_lst rfl o1, .ref l2, el2, tyV_lst rfl o2, F, env, rl.rel, ?_⟩
          cases ef : f env with
          | ok r =>
            simp only [ef] at z
            cases ed : r.d <;> simp only [ed] at z <;> first | exact z.elim | skip
            rename_i n
            by_cases c : 0 ≤ n ∧ n < bs.length ∧ as.length < 16777216 ∧ bs.length ≤ 16777216 ∧ i ≠ j
            · rw [if_pos c] at z
              intro F1 H1 v x q
              have qd := q.dv
              rw [ed] at qd
              have rl1 := rl.step x
              obtain ⟨l1', el1', fl1', o1'⟩ := rl1.rel.ow i _ ei
              obtain ⟨l2', el2', fl2', o2'⟩ := rl1.rel.ow j _ ej
              rw [el1] at el1'
              cases el1'
              rw [el2] at el2'
              cases el2'
              obtain ⟨xs, h1, r1⟩ := o1'
              obtain ⟨ys, h2, r2⟩ := o2'
              have hlen := r2.len
              have hn : n.toNat < bs.length := by omega
              have eb : bs[n.toNat]? = some bs[n.toNat] := List.getElem?_eq_getElem hn
              simp only [eb] at z
              obtain ⟨y, hy, ry⟩ := r2.get eb
              have ne : l1 ≠ l2 := fun w => c.2.2.2.2 (rl1.rel.sep i j _ _ l1 ei ej el1 (by rw [w]; exact el2))
              refine ⟨l2, ys, n, n.toNat, y, rfl, by rw [qd.int], h2, by omega, by omega, by rw [hlen]; exact seqIndex_nat c.1 c.2.1, hy, ?_⟩
              have o2n : OwnAs X.K F1 (upd H1 l2 (.lst (ys.eraseIdx n.toNat))) l2 (.lst (bs.eraseIdx n.toNat)) := ⟨_, upd_same, r2.erase _⟩
              have rl2 := rl1.mut ej el2 o2n
              have h1' : (upd H1 l2 (.lst (ys.eraseIdx n.toNat))) l1 = some (.lst xs) := by rw [upd_ne ne]; exact h1
              refine ⟨l1, xs, y, rfl, rfl, h1', by rw [sizeLine_eq, r1.len]; exact c.2.2.1, ?_⟩
              have ei' : (env.set j (.ow (.lst (bs.eraseIdx n.toNat))))[i]? = some (.ow (.lst as)) := by rw [List.getElem?_set_ne (Ne.symm c.2.2.2.2)]; exact ei
              have o1n : OwnAs X.K F1 (upd (upd H1 l2 (.lst (ys.eraseIdx n.toNat))) l1 (.lst (xs ++ [y]))) l1 (.lst (as ++ [bs[n.toNat]])) := ⟨_, upd_same, r1.app (.cons ry .nil)⟩
              exact z _ _ σ (rl2.mut ei' el1 o1n)
            · rw [if_neg c] at z
              exact z.elim
          | ex c => simp only [ef] at z; exact fun F1 H1 cls x m => z F1 H1 σ cls (rl.step x) m
          | st => simp only [ef] at z; exact z.elim
/-- no promise -/
theorem fn_none {P : Program} {w : World} {base : Heap} {k : Nat} {f : Addr} {fd : FuncData} {ps : List Str} : FnG P w K mg base k f fd ps (fun _ => .st) :=
  ⟨fun vs H Q E h => by obtain ⟨_, _, _, e, _⟩ := h; exact e, fun A outer s H args us vs Q E _ _ _ _ h => by obtain ⟨_, _, _, _, _, z⟩ := h; exact z.elim⟩
/-! ### a, b, .. = a list -/
def bindL (is : List Nat) (d : D) (env : Env) : Option Env := match d with
  | .lst ds => if ds.length = is.length then some (setMany env is ds) else none
  | _ => none
def gTL (K : PySem.W.Frag) (is : List Nat) : TG := fun v σ H Q => ∃ F0 H0 F env d e, SRel K F0 H0 F H σ env ∧ DR K F v d ∧ bindL is d env = some e ∧ ∀ σ', SRel K F0 H0 F H σ' e → OnlyAt is σ σ' → Q σ' H
theorem gvl_tup {es : List Expr} {k : Nat} {n : Nat} {is : List Nat} (hc : X.calm = true) (h : PGs X es (gNames is)) (hn : (assignEach es X.env).length = n := by rfl) (hst : (assignEach es X.env).findIdx? (·.1) = none := by rfl) (hl : is.length = n := by rfl) : PG X (.Tuple es k pos) (gTL X.K is) := (pg_unl hc h hn hst).imp fun v σ H Q z => by
  obtain ⟨F0, H0, F, env, d, e, rl, dr, b, z⟩ := z
  unfold bindL at b
  cases dr <;> simp only [] at b <;> first | (cases b; done) | skip
  rename_i hs rs
  split at b
  · rename_i c
    cases b
    exact ⟨_, _, rfl, .of (rl.rel.sub _ _ hs), by rw [rs.len, c]; exact hl, gNames_ok is _ _ σ env rl rs c rfl z⟩
  · cases b
def sAsgL (is : List Nat) : Sx → Stx := sRun fun r env => match r with
  | .bo _ => .st
  | r => match bindL is r.d env with
    | some e => .nx e
    | none => .st
theorem sv_asgL {tg e : Expr} {f : Sx} {is : List Nat} (he : EV X W e f) (hg : PG X tg (gTL X.K is)) (hs : swapsWithSole [tg] e pos.line X.env = pure false := by rfl) (hw : swappedStores [tg] e X.env = pure none := by rfl)
    (h1 : (assignEach [tg] X.env).map (·.2) = [assign tg X.env] := by rfl) : SV X W (.Assign [tg] e pos) (sAsgL is f) := (ps_asg he hg hs hw h1).imp fun E σ H z =>
  tS_run (Q := fun v H1 => gTL X.K is v σ H1 E.nx) z fun F0 H0 F env rl r z F1 H1 v x q => by
    have main : r.keeps → okS X.K X.mg W F0 H0 E (match bindL is r.d env with | some e => .nx e | none => .st) → gTL X.K is v σ H1 E.nx := by
      intro kp z
      obtain ⟨F2, x2, sm, dr⟩ := freeze x q kp
      cases e : bindL is r.d env with
      | none => rw [e] at z; exact z.elim
      | some e' =>
        rw [e] at z
        exact ⟨F0, H0, F2, env, r.d, e', rl.step x2, dr, e, fun σ' r' _ => z F2 H1 σ' r'⟩
    cases r with
    | cl d => exact main trivial z
    | ow d => exact main trivial z
    | bo d => exact z.elim
end
/-! ### t * 0, t * 1 -/
theorem tuple_mul1 (l : Addr) (items : Array Value) (n : Nat) (dd : Option Addr) (sl : Array (Option Value)) (u : Tok) :
    Meets (Builtin.«tuple.__mul__» ⟨[.ref l, .int 1 u], []⟩) (fun _ R s => s.heap.get? l = some { cls := .type "tuple", dict := dd, data := .seq items n, slots := sl } ∧ R (.ok (.ret (Value.ref l))) { s with toks := s.toks }) :=
  .of_wp fun prog w A R s h => by
    obtain ⟨hp, g, d, tk, os⟩ := s
    obtain ⟨hl, h⟩ := h
    have f1 := AutoSeq1.idx_int
    wp_walk using wpAny_loadPart' hl
    exact ⟨_, rfl, h⟩
theorem tuple_mul0 (l : Addr) (items : Array Value) (n : Nat) (dd : Option Addr) (sl : Array (Option Value)) (u : Tok) (hi : items.isEmpty = false) :
    Meets (Builtin.«tuple.__mul__» ⟨[.ref l, .int 0 u], []⟩) (fun _ R s => s.heap.get? l = some { cls := .type "tuple", dict := dd, data := .seq items n, slots := sl } ∧
      R (.ok (.ret (Value.ref s.heap.objs.size))) { s with heap := s.heap.push { cls := Value.type "tuple", data := Data.seq #[] }, toks := s.toks }) :=
  .of_wp fun prog w A R s h => by
    obtain ⟨hp, g, d, tk, os⟩ := s
    obtain ⟨hl, h⟩ := h
    have f1 := AutoSeq1.idx_int
    wp_walk using wpAny_loadPart' hl
    have c1 : (items.isEmpty || (0 : Int) == 1) = false := by rw [hi]; rfl
    repeat (first
      | (refine wpAny_ite_false (decide_eq_false (by rw [c1]; exact Bool.false_ne_true)) ?_; wp_walk using wpAny_loadPart' hl))
    exact ⟨_, rfl, h⟩
def rRep01 (K : PySem.W.Frag) : R2 := fun x y H Q => ∃ l k xs, x = .ref l ∧ y = .int k ∧ SqT K H l xs ∧ xs ≠ [] ∧ (k = 0 ∨ k = 1) ∧ (k = 1 → Q (.ref l) H) ∧ (k = 0 → NewT H Q [])
theorem op_rep01 {X : Cx} : OpR X (binaryOp .Mult) (rRep01 X.K) := by
  intro pins s σ H x y v u Q I rx ry h
  obtain ⟨l, k, xs, rfl, rfl, hT, hne, hk, q1, q0⟩ := h
  cases rx
  obtain ⟨t, rfl⟩ := ry
  obtain ⟨its, r, ⟨⟨cls, dd, data, sl⟩, ho, hc, n, hd⟩, hs⟩ := I.tuple hT
  simp only at hc hd
  subst hc hd
  have hi : its.toArray.isEmpty = false := by
    cases its with
    | nil => exact absurd (List.eq_nil_of_length_eq_zero r.length) hne
    | cons a b => rfl
  have lead {Q' : Value → Shared → Prop} (m : wpAny (model X.prog X.w) X.A (call (.builtin "tuple.__mul__") [.ref l, .int k t]) Q' X.xe s) : wpAny (model X.prog X.w) X.A (binaryOp .Mult (.ref l) (.int k t)) Q' X.xe s :=
    wpAny_binaryOp_repeat_ref (T := "tuple") (U := "int") (by decide) ⟨_, ho, rfl⟩ (fun s' => typeIs_int s' k t) noFill_tuple_mul F.fills_int_mul F.slot_int_rmul repeat_tuple F.slot_int_index.lookup
      (call_meets F.slot_int_rmul (typeIs_int s k t) F.entry_int_rmul (F.args_int_rmul_2 _ _) (int_rmul_tuple k t l its.toArray n dd sl) ⟨ho, rfl, ⟨_, ho, rfl⟩, m⟩)
  rcases hk with rfl | rfl
  · refine lead (call_meets F.slot_tuple_mul ⟨_, ho, rfl⟩ F.entry_tuple_mul (F.args_tuple_mul_2 _ _) (tuple_mul0 l its.toArray n dd sl t hi) ⟨ho, ?_⟩)
    exact ⟨.ref s.heap.objs.size, _, I.laid (t' := s.toks) (o := .frz { cls := .type "tuple", data := .seq #[] } (.tup [])) (fun b ob q => Heap.get?_push_of_some _ q) (Nat.le_refl _) ⟨Heap.get?_push_size _ rfl, Nat.zero_le _, [], .nil, IsTup.new _ #[]⟩, rfl, q0 rfl _ _ rfl (I.hok.fresh (Nat.le_refl _))⟩
  · exact lead (call_meets F.slot_tuple_mul ⟨_, ho, rfl⟩ F.entry_tuple_mul (F.args_tuple_mul_2 _ _) (tuple_mul1 l its.toArray n dd sl t) ⟨ho, .ref l, H, I, rfl, q1 rfl⟩)
def dRep01 : D → D → Out R
  | .tup a, .int k => if a.isEmpty = false then (if k = 1 then cD (.tup a) else if k = 0 then cD (.tup []) else .st) else .st
  | _, _ => .st
theorem o2_rep01 {K : PySem.W.Frag} : Op2 K (rRep01 K) dRep01 := by
  intro F H x y a b Q s hx hy h
  cases a <;> first | exact (False.elim h) | skip
  cases b <;> first | exact (False.elim h) | skip
  rename_i as k
  unfold dRep01 at h
  obtain ⟨c, h⟩ := if_some h
  have hx2 := hx
  obtain ⟨l, xs, rfl, q1, r1⟩ := hx.tup s
  have z1 := r1.len
  refine ⟨l, k, xs, rfl, hy.int, q1, fun e => ?_, ?_, fun e => ?_, fun e => ?_⟩
  · subst e
    rw [List.eq_nil_of_length_eq_zero z1.symm] at c
    cases c
  · by_cases k1 : k = 1
    · exact .inr k1
    · by_cases k0 : k = 0
      · exact .inl k0
      · rw [if_neg k1, if_neg k0] at h
        exact h.elim
  · rw [if_pos e] at h
    exact okV_cl s h hx2.tupF
  · have k1 : ¬ k = 1 := by omega
    rw [if_neg k1, if_pos e] at h
    exact okV_new (ds := []) (xs := []) s h .nil
theorem n_rep01 : ∀ a b, noEx (dRep01 a b) := by
  intro a b; unfold dRep01 cD; repeat' (first | trivial | split)
end Fs

set_option maxHeartbeats 4000000
namespace Fs
open PySem PySem.Spec PyProof.Rows L2

/-! ### sorted of a list of tuples of whole numbers -/
def encT (ns : List Int) : PyData := .tuple (ns.map .int)
def sortT (nss : List (List Int)) : List (List Int) := nss.mergeSort fun p q => decide (p ≤ q)
theorem le_encT : PySem.W.dataLe false encT = fun p q => decide (p ≤ q) := by
  funext p q
  show (!PySem.W.dataLt (.tuple (q.map .int)) (.tuple (p.map .int))) = _
  rw [PySem.W.dataLt_tuple]
  show (!PySem.W.rowLt (q.map .int) (p.map .int)) = _
  rw [PySem.W.dataLt_ints]
  by_cases h : q < p
  · rw [decide_eq_true h, decide_eq_false (show ¬ p ≤ q from fun r => List.not_lt.mpr r h)]
    rfl
  · rw [decide_eq_false h, decide_eq_true (show p ≤ q from List.not_lt.mp h)]
    rfl
theorem perm_sortT (nss : List (List Int)) : (sortT nss).Perm nss := List.mergeSort_perm ..
theorem up_sortT (nss : List (List Int)) : (sortT nss).Pairwise (· ≤ ·) := by
  have := List.pairwise_mergeSort (le := fun p q : List Int => decide (p ≤ q)) (fun a b c h1 h2 => by
    rw [decide_eq_true_iff] at h1 h2 ⊢
    exact List.le_trans h1 h2) (fun a b => by
    rw [Bool.or_eq_true, decide_eq_true_iff, decide_eq_true_iff]
    exact List.le_total a b) nss
  exact this.imp fun h => by simpa using h
/-- two rising lists of the same rows are one -/
theorem rows_one {l m : List (List Int)} (hl : l.Pairwise (· ≤ ·)) (hm : m.Pairwise (· ≤ ·)) (h : l.Perm m) : l = m :=
  h.eq_of_pairwise (fun a b _ _ h1 h2 => List.le_antisymm h1 h2) hl hm
theorem sortT_congr {l m : List (List Int)} (h : l.Perm m) : sortT l = sortT m :=
  rows_one (up_sortT l) (up_sortT m) ((perm_sortT l).trans (h.trans (perm_sortT m).symm))
open PySem.W in
theorem each_of {G : V → List Int → Prop} : ∀ {xs : List V} {us : List Value} {nss : List (List Int)}, Vals xs us → EachIs G xs nss → EachIs (fun v ns => ∃ x, RelV x v ∧ G x ns) us nss
  | _, _, _, .nil, .nil => .nil
  | _, _, _, .cons r rr, .cons g gg => .cons ⟨_, r, g⟩ (each_of rr gg)
open PySem.W in
theorem each_back {G : V → List Int → Prop} : ∀ {us : List Value} {nss : List (List Int)}, EachIs (fun v ns => ∃ x, RelV x v ∧ G x ns) us nss → ∃ ys, Vals ys us ∧ EachIs G ys nss
  | _, _, .nil => ⟨[], .nil, .nil⟩
  | _, _, .cons ⟨x, r, g⟩ t => by
    obtain ⟨ys, a, b⟩ := each_back t
    exact ⟨x :: ys, .cons r a, .cons g b⟩
open PySem.W in
theorem each_at {α β : Type} {R : α → β → Prop} : ∀ {as : List α} {bs : List β}, as.length = bs.length → (∀ (i : Nat) a b, as[i]? = some a → bs[i]? = some b → R a b) → EachIs R as bs
  | [], [], _, _ => .nil
  | [], _ :: _, h, _ => nomatch h
  | _ :: _, [], h, _ => nomatch h
  | a :: as, b :: bs, h, r => .cons (r 0 a b rfl rfl) (each_at (Nat.succ.inj h) fun i x y e1 e2 => r (i + 1) x y (by simpa using e1) (by simpa using e2))
section
variable {X : Cx} {K : PySem.W.Frag} {F H : Hp}
def rSortRows (K : PySem.W.Frag) : List V → Hp → VK → Prop := fun vs H Q => ∃ (l : Addr) (xs : List V) (nss : List (List Int)) (G : V → List Int → Prop), vs = [.ref l] ∧ SqL K H l xs ∧ TupL K H xs nss ∧ PySem.W.EachIs G xs nss ∧ (∀ ns ∈ nss, ns ≠ []) ∧
  ∀ ys p, PySem.W.EachIs G ys (sortT nss) → H p = none → Q (.ref p) (upd H p (.lst ys))
theorem depth_tupInts (ns : List Int) : (encT ns).depth ≤ 2 := by
  unfold encT PyData.depth
  rw [PySem.W.depth_ints]
  decide
theorem cr_sortRows (hu : X.A.units + 66 < cLine) : CallR X (.builtin "sorted") (rSortRows X.K) := by
  intro pins s σ H vs us Q I r h
  obtain ⟨l, xs, nss, G, rfl, hs, ht, hg, hne, q⟩ := h
  obtain ⟨its, rv, pl, hz⟩ := I.list hs
  rw [Vals.ref1 r]
  have tin := tups_in I ht rv
  have len := ht.1
  have len2 := rv.length
  have e2 : PySem.W.EachIs (fun v ns => ∃ as, Reads s.heap v (encT ns) as) its nss := each_at (by omega) fun i v ns e1 e3 => by
    obtain ⟨a, t, rfl, ⟨o, g, gc, n, gd⟩, hi⟩ := tin i v e1
    have : nss.getD i [] = ns := by rw [List.getD_eq_getElem?_getD, e3]; rfl
    rw [this] at hi
    exact ⟨_, .tuple g gc gd (hi.reads s.heap)⟩
  refine PySem.W.sorted_data (enc := encT) pl.isList (each_of rv hg) e2 (PySem.W.AllAlike.of fun b b' => by
      show PySem.W.alike (.tuple _) (.tuple _) = true
      unfold PySem.W.alike
      exact PySem.W.alike_ints b b') (.inl fun d hd => ?_) (by rw [← len]; exact hz) (fun b hb => ?_) fun out ho eo => ?_
  · obtain ⟨ns, hn, rfl⟩ := List.mem_map.mp hd
    cases ns with
    | nil => exact absurd rfl (hne _ hn)
    | cons x r => exact ⟨_, _, rfl⟩
  · have := depth_tupInts b
    omega
  · rw [le_encT] at eo
    obtain ⟨ys, ry, gy⟩ := each_back eo
    obtain ⟨ep, he'⟩ := sortedAll_at s.heap its out.toArray
    have hlen : ys.length ≤ sizeLine := by
      have := ry.length
      have : out.length = nss.length := ho
      omega
    exact ⟨.ref _, upd H (s.heap.objs.size + 1) (.lst ys), I.laid (t' := s.toks) (fun _ _ => sortedAll_old) (Nat.le_succ _) ⟨hlen, out, ep, ry, he'⟩, rfl, q _ _ gy (I.hok.fresh (Nat.le_succ _))⟩
theorem each_DRs {F : Hp} : ∀ {xs : List V} {nss : List (List Int)}, DRs K F xs (nss.map fun ns => D.tup (ns.map D.int)) → PySem.W.EachIs (fun x ns => DR K F x (.tup (ns.map D.int))) xs nss
  | [], [], .nil => .nil
  | _, ns :: nss, .cons r t => .cons r (each_DRs t)
theorem DRs_each {F : Hp} : ∀ {xs : List V} {nss : List (List Int)}, PySem.W.EachIs (fun x ns => DR K F x (.tup (ns.map D.int))) xs nss → DRs K F xs (nss.map fun ns => D.tup (ns.map D.int))
  | _, _, .nil => .nil
  | _, _, .cons r t => .cons r (DRs_each t)
def dSortRows : D → Out R
  | .lst ds => match tupsOf ds with
    | some nss => if nss.all (fun ns => !ns.isEmpty) = true then oD (.lst ((sortT nss).map fun ns => D.tup (ns.map D.int))) else .st
    | none => .st
  | _ => .st
theorem o1_sortRows : Op1 K (fun x => rSortRows K [x]) dSortRows := by
  intro F H x a Q s hx h
  cases a <;> first | exact (False.elim h) | skip
  rename_i ds
  unfold dSortRows at h
  cases e : tupsOf ds with
  | none => simp only [e] at h; exact h.elim
  | some nss =>
    simp only [e] at h
    obtain ⟨c, h⟩ := if_some h
    obtain ⟨l, xs, rfl, q1, r1⟩ := hx.lst s
    rw [tupsOf_eq e] at r1
    refine ⟨l, xs, nss, _, rfl, .of q1, tupL_of s r1, each_DRs r1, fun ns hn e => ?_, fun ys p gy hp => okV_newL s h (DRs_each gy) p hp⟩
    have := List.all_eq_true.mp c ns hn
    rw [e] at this
    exact absurd this (by decide)
theorem n_sortRows : ∀ a, noEx (dSortRows a) := by
  intro a; unfold dSortRows oD; repeat' (first | trivial | split)
/-! ### len(set(..)) -/
def rLenSetO (w : World) : List V → Hp → VK → Prop := fun vs H Q => ∃ (a : Addr) (S : Int → Bool) (n : Nat) (ns : List Int), vs = [.ref a] ∧ H a = some (SetO w a S n) ∧ ns.Nodup ∧ (∀ k : Int, k ∈ ns ↔ S k = true) ∧ Q (.int (ns.length : Nat)) H
theorem cr_lenSetO : CallR X (.builtin "len") (rLenSetO X.w) := by
  intro pins s σ H vs us Q I r h
  obtain ⟨a, S, n, ns, rfl, ha, hn, hm, q⟩ := h
  rw [Vals.ref1 r]
  obtain ⟨o, es, ep, t, ho, hex, hd, _, nd, hS, hb, hf, hsz, _⟩ := setO_get I ha
  have hl : es.size = ns.length := by
    have p : (es.toList.map keyOf).Perm ns := (List.perm_ext_iff_of_nodup nd hn).mpr fun k => by rw [← hS, hm]
    have := p.length_eq
    simpa using this
  exact call_len_set ho hex hd hf (by have : scanBound = 4096 := rfl; omega) ⟨.int (ns.length : Nat), H, I.tok _, ⟨_, by rw [hl]⟩, q⟩
def dLenSet (d : D) : Out R := match setInts d with
  | some ns => if ns.length < 4095 then .ok (.cl (.int (sset ns).length)) else .st
  | none => .st
theorem n_lenSet : ∀ d, noEx (dLenSet d) := by
  intro d; unfold dLenSet; repeat' (first | trivial | split)
variable {W : WX} {pos : Pos}
theorem ev_lenSet {p p2 pos2 : Pos} {e : Expr} {f : Sx} (hc : X.calm = true) (hg : Gl X "len") (hm : X.mg "len" = none) (hg2 : Gl X "set") (hm2 : X.mg "set" = none) (ha : EV X W e f)
    (he : starEach [e] X.env = (false, eval e X.env) :: starEach [] X.env := by rfl) (he2 : starEach [.Call (.Name "set" p2) [e] [] pos2] X.env = (false, eval (.Call (.Name "set" p2) [e] [] pos2) X.env) :: starEach [] X.env := by rfl) :
    EV X W (.Call (.Name "len" p) [.Call (.Name "set" p2) [e] [] pos2] [] pos) (e1 dLenSet f) :=
  (pe_callB cr_lenSetO hg hm (by decide +kernel) (pa_cons (pe_callTy (cr_setA hc) hg2 hm2 (by decide +kernel) (pa_cons ha pa_nil he) (by decide) (by decide) he rfl) pa_nil he2) (by decide) (by decide) he2 rfl).imp fun σ H Q h => by
    refine t1_of (K := X.K) (mg := X.mg) (W := W) (r := fun x H Q => rSetOf X.K X.w [x] H fun y H1 => rLenSetO X.w [y] H1 Q) (φ := dLenSet) (fun F H x a Q s hx h => ?_) n_lenSet h
    unfold dLenSet at h
    cases e1 : setInts a with
    | none => rw [e1] at h; exact h.elim
    | some ns =>
      rw [e1] at h
      obtain ⟨c, h⟩ := if_some h
      refine setInts_v s hx e1 (by show ns.length + 1 < 4096; omega) fun p c _ np => ?_
      have x1 := Ext.newO (o := SetO X.w p (fun j => decide (j ∈ ns)) c) s np
      refine ⟨p, _, c, sset ns, rfl, upd_same, (up_sset ns).imp (by intro a b h; omega), fun k => by rw [mem_sset, decide_eq_true_iff], ?_⟩
      exact h F _ _ x1 (.int _)
end
end Fs

set_option maxHeartbeats 4000000
namespace Fs
open PySem PySem.Spec PyProof.Rows L2

/-! ### data without a locked dict -/
def dropL (F : Hp) (a : Addr) : Hp := fun b => if b = a then none else F b
theorem dropL_same {F : Hp} {a : Addr} : dropL F a a = none := if_pos rfl
theorem dropL_ne {F : Hp} {a b : Addr} (h : b ≠ a) : dropL F a b = F b := if_neg h
mutual
def D.nz : D → Bool
  | .tup l => nzL l
  | .lst l => nzL l
  | .dct l => nzK l
  | .dcz _ => false
  | .dtk _ _ => false
  | _ => true
def nzL : List D → Bool
  | [] => true
  | d :: r => d.nz && nzL r
def nzK : List (Key × D) → Bool
  | [] => true
  | (_, d) :: r => d.nz && nzK r
end
section
variable {K : PySem.W.Frag} {F H : Hp} {l : Addr} {od : Obj} {us : List (Key × V)}
theorem ne_l (h : F l = some (.frz od (.dK us))) {a : Addr} {o : HO} (e : F a = some o) (n : ∀ x y, o ≠ .frz x (.dK y)) : a ≠ l := fun z => by
  rw [z, h] at e
  cases e
  exact n _ _ rfl
theorem sqT_drop (h : F l = some (.frz od (.dK us))) {a : Addr} {xs : List V} (s : SqT K F a xs) : SqT K (dropL F l) a xs := by
  rcases s with (q | ⟨o, q⟩) | q
  · exact .inl (.inl (by rw [dropL_ne (ne_l h q fun _ _ z => nomatch z)]; exact q))
  · exact .inl (.inr ⟨o, by rw [dropL_ne (ne_l h q fun _ _ z => nomatch z)]; exact q⟩)
  · exact .inr q
theorem sqN_drop (h : F l = some (.frz od (.dK us))) {a : Addr} {xs : List V} (s : SqN K F a xs) : SqN K (dropL F l) a xs := by
  rcases s with ⟨o, n, q⟩ | q
  · exact .inl ⟨o, n, by
      rw [dropL_ne fun z => by
        rw [z, h] at q
        cases q]
      exact q⟩
  · exact .inr q
theorem sqL_drop (h : F l = some (.frz od (.dK us))) {a : Addr} {xs : List V} (s : SqL K F a xs) : SqL K (dropL F l) a xs := by
  rcases s with (q | ⟨o, q⟩) | q
  · exact .inl (.inl (by rw [dropL_ne (ne_l h q fun _ _ z => nomatch z)]; exact q))
  · exact .inl (.inr ⟨o, by rw [dropL_ne (ne_l h q fun _ _ z => nomatch z)]; exact q⟩)
  · exact .inr q
mutual
theorem DR.drop (h : F l = some (.frz od (.dK us))) : ∀ {v : V} {d : D}, DR K F v d → d.nz = true → DR K (dropL F l) v d
  | _, _, .non, _ => .non
  | _, _, .bl b, _ => .bl b
  | _, _, .int b, _ => .int b
  | _, _, .str b, _ => .str b
  | _, _, .tup q r, n => .tup (sqN_drop h q) (DRs.drop' h r (by simpa only [D.nz] using n))
  | _, _, .lst q r, n => .lst (by rw [dropL_ne (ne_l h q fun _ _ z => nomatch z)]; exact q) (DRs.drop' h r (by simpa only [D.nz] using n))
  | _, _, .dct q r, n => .dct (by rw [dropL_ne (ne_l h q fun _ _ z => nomatch z)]; exact q) (DRk.drop h r (by simpa only [D.nz] using n))
  | _, _, .scr q, _ => .scr (sqL_drop h q)
  | _, _, .dcz q r, n => by simp [D.nz] at n
  | _, _, .dtk q r, n => by simp [D.nz] at n
theorem DRs.drop' (h : F l = some (.frz od (.dK us))) : ∀ {v : List V} {d : List D}, DRs K F v d → nzL d = true → DRs K (dropL F l) v d
  | _, _, .nil, _ => .nil
  | _, _, .cons q r, n => by
    simp only [nzL, Bool.and_eq_true] at n
    exact .cons (DR.drop h q n.1) (DRs.drop' h r n.2)
theorem DRk.drop (h : F l = some (.frz od (.dK us))) : ∀ {v : List (Key × V)} {d : List (Key × D)}, DRk K F v d → nzK d = true → DRk K (dropL F l) v d
  | _, _, .nil, _ => .nil
  | _, _, .cons q r, n => by
    simp only [nzK, Bool.and_eq_true] at n
    exact .cons (DR.drop h q n.1) (DRk.drop h r n.2)
end
end

/-! ### an own dict stands under a lock while an expression is worked out -/
def eLock (i : Nat) (f : Sx) : Sx := fun env => match env[i]? with
  | some (.ow (.dct kvs)) => (match f (env.set i (.sh (.dcz kvs))) with
    | .ok r => if r.d.nz = true then .ok r else .st
    | _ => .st)
  | _ => .st
section
variable {X : Cx} {W : WX} {pos : Pos} {K : PySem.W.Frag}
theorem Rel.locked {F H : Hp} {σ : Sg} {env : Env} {i : Nat} {kvs : List (Key × D)} {ks : List (Key × V)} {l : Addr} (rl : Rel K F H σ env) (e : env[i]? = some (.ow (.dct kvs))) (sl : σ[i]? = some (some (.ref l))) (fl : F l = none) (hl : H l = some (.dK ks)) (rk : DRk K F ks kvs) (od : Obj) :
    Rel K (upd F l (.frz od (.dK ks))) (upd H l (.frz od (.dK ks))) σ (env.set i (.sh (.dcz kvs))) := by
  have sm : Same F (upd F l (.frz od (.dK ks))) := fun b u q => by rw [upd_ne (ne_of_none q fl)]; exact q
  have hi : i < env.length := (List.getElem?_eq_some_iff.mp e).1
  have was : ∀ {j : Nat} {s : Slot}, (env.set i (.sh (.dcz kvs)))[j]? = some s → (j = i ∧ s = .sh (.dcz kvs)) ∨ (j ≠ i ∧ env[j]? = some s) := fun {j s} q => by
    by_cases c : j = i
    · subst c
      rw [List.getElem?_set_self hi] at q
      cases q
      exact .inl ⟨rfl, rfl⟩
    · rw [List.getElem?_set_ne (fun z => c z.symm)] at q
      exact .inr ⟨c, q⟩
  refine ⟨fun b u q => ?_, by rw [List.length_set]; exact rl.len, fun j d q => ?_, fun j d q => ?_, fun j k d d2 l2 q1 q2 => ?_, fun j a q => ?_⟩
  · by_cases hb : b = l
    · subst hb; rw [upd_same] at q ⊢; exact q
    · rw [upd_ne hb] at q ⊢; exact rl.sub _ _ q
  · rcases was q with ⟨rfl, z⟩ | ⟨c, q⟩
    · cases z
      exact ⟨_, sl, .dcz upd_same (rk.mono sm)⟩
    · obtain ⟨v, a, b⟩ := rl.sh j d q
      exact ⟨v, a, b.mono sm⟩
  · rcases was q with ⟨rfl, z⟩ | ⟨c, q⟩
    · cases z
    · obtain ⟨l2, a, f2, o⟩ := rl.ow j d q
      have hne : l2 ≠ l := fun z => by
        subst z
        exact c (rl.sep j i _ _ l2 q e a sl)
      refine ⟨l2, a, by rw [upd_ne hne]; exact f2, ?_⟩
      cases d <;> first | exact (False.elim o) | skip
      · obtain ⟨xs, q, r⟩ := o
        exact ⟨xs, by rw [upd_ne hne]; exact q, r.mono sm⟩
      · obtain ⟨xs, q, r⟩ := o
        exact ⟨xs, by rw [upd_ne hne]; exact q, r.mono sm⟩
      · obtain ⟨us, q, r⟩ := o
        exact ⟨us, q.mono sm (upd_ne hne).symm, r.mono sm⟩
  · rcases was q1 with ⟨_, z⟩ | ⟨_, q1⟩
    · cases z
    · rcases was q2 with ⟨_, z⟩ | ⟨_, q2⟩
      · cases z
      · exact rl.sep j k d d2 l2 q1 q2
  · rcases was q with ⟨_, z⟩ | ⟨_, q⟩
    · cases z
    · exact rl.ex j a q
/-- what was made under the lock, behind it -/
theorem Ext.unlocked {F H F2 H2 : Hp} {ks : List (Key × V)} {l : Addr} {od : Obj} (fl : F l = none) (hl : H l = some (.dK ks)) (x : Ext (upd F l (.frz od (.dK ks))) (upd H l (.frz od (.dK ks))) F2 H2) :
    F2 l = some (.frz od (.dK ks)) ∧ H2 l = some (.frz od (.dK ks)) ∧ Ext F H (dropL F2 l) (upd H2 l (.dK ks)) := by
  have h1 := x.ff l _ upd_same
  have h2 := x.hh l _ upd_same
  refine ⟨h1, h2, fun b u q => ?_, fun b u q => ?_, fun b u q => ?_, fun b u q => ?_⟩
  · by_cases hb : b = l
    · subst hb; rw [upd_same, ← hl]; exact q
    · rw [upd_ne hb]; exact x.hh b u (by rw [upd_ne hb]; exact q)
  · have hb := ne_of_none q fl
    rw [dropL_ne hb]
    exact x.ff b u (by rw [upd_ne hb]; exact q)
  · by_cases hb : b = l
    · subst hb; rw [dropL_same] at q; cases q
    · rw [dropL_ne hb] at q; rw [upd_ne hb]; exact x.fh b u q
  · by_cases hb : b = l
    · subst hb; rw [dropL_same] at q; cases q
    · rw [dropL_ne hb] at q
      have := x.nw b u q
      rwa [upd_ne hb, upd_ne hb] at this
theorem RV.unlocked {H F2 H2 : Hp} {ks : List (Key × V)} {l : Addr} {od : Obj} {v : V} {r : R} (f2 : F2 l = some (.frz od (.dK ks))) (n : r.d.nz = true) (q : RV K F2 (upd H l (.frz od (.dK ks))) H2 v r) : RV K (dropL F2 l) H (upd H2 l (.dK ks)) v r := by
  have own : ∀ {a : Addr} {d : D}, Own K F2 H2 a d → d.nz = true → Own K (dropL F2 l) (upd H2 l (.dK ks)) a d := fun {a d} o n => by
    obtain ⟨f, o⟩ := o
    have hne : a ≠ l := fun z => by rw [z, f2] at f; cases f
    refine ⟨by rw [dropL_ne hne]; exact f, ?_⟩
    cases d <;> first | exact (False.elim o) | skip
    · obtain ⟨xs, q, r⟩ := o
      exact ⟨xs, by rw [upd_ne hne]; exact q, r.drop' f2 (by simpa only [D.nz] using n)⟩
    · obtain ⟨xs, q, r⟩ := o
      exact ⟨xs, by rw [upd_ne hne]; exact q, r.drop f2 (by simpa only [D.nz] using n)⟩
    · simp [D.nz] at n
  cases r with
  | cl d => exact DR.drop f2 q n
  | ow d =>
    obtain ⟨a, rfl, h0, o⟩ := q
    have hne : a ≠ l := fun z => by rw [z, upd_same] at h0; cases h0
    rw [upd_ne hne] at h0
    exact ⟨a, rfl, h0, own o n⟩
  | bo d =>
    obtain ⟨a, rfl, o⟩ := q
    exact ⟨a, rfl, own o n⟩
theorem ev_lock {i : Nat} {e : Expr} {f : Sx} (he : EV X W e f) : EV X W e (eLock i f) := (pe_lock he).imp fun σ H Q h => by
  obtain ⟨F, env, rl, h⟩ := h
  unfold eLock at h
  cases es : env[i]? with
  | none => simp only [es] at h; exact h.elim
  | some s =>
    simp only [es] at h
    cases s with
    | un => exact h.elim
    | sh d => exact h.elim
    | exc a => exact h.elim
    | ow d =>
      cases d <;> first | exact h.elim | skip
      rename_i kvs
      obtain ⟨l, sl, fl, ks, hl, rk⟩ := rl.ow i _ es
      refine ⟨l, .dK ks, hl, trivial, fun od => ⟨_, _, rl.locked es sl fl hl rk od, ?_⟩⟩
      cases ef : f (env.set i (.sh (.dcz kvs))) with
      | ex c => simp only [ef] at h; exact h.elim
      | st => simp only [ef] at h; exact h.elim
      | ok r =>
        simp only [ef] at h
        obtain ⟨c, h⟩ := (show r.d.nz = true ∧ okE X.K X.mg W F H σ Q (.ok r) by
          by_cases c : r.d.nz = true
          · rw [if_pos c] at h; exact ⟨c, h⟩
          · rw [if_neg c] at h; exact h.elim)
        intro F2 H2 v x q
        obtain ⟨a1, a2, a3⟩ := Ext.unlocked fl hl x
        exact ⟨a2, h _ _ v a3 (RV.unlocked a1 c q)⟩

/-! ### a fresh dict is locked for good -/
def eZ (f : Sx) : Sx := fun env => match f env with
  | .ok (.ow (.dct kvs)) => .ok (.cl (.dcz kvs))
  | .ok _ => .st
  | .ex c => .ex c
  | .st => .st
def tLockF (t : TE) : TE := fun σ H Q => t σ H fun x H1 => ∃ d ks, x = .ref d ∧ H1 d = some (.dK ks) ∧ ∀ od, Q x (upd H1 d (.frz od (.dK ks)))
theorem pe_lockF {e : Expr} {t : TE} (h : PE X e t) : PE X e (tLockF t) := by
  refine ⟨fun pins s σ H Q I hw => ?_⟩
  refine thn (h.run pins s σ _ _ I hw) fun v s1 ⟨x, H1, I1, r, d, ks, ex, hd, q⟩ => ?_
  obtain ⟨od, I2⟩ := I1.lock hd trivial
  exact ⟨x, _, I2, r, q od⟩
theorem ev_z {e : Expr} {f : Sx} (he : EV X W e f) : EV X W e (eZ f) := (pe_lockF he).imp fun σ H Q h => by
  obtain ⟨F, env, rl, h⟩ := h
  refine ⟨F, env, rl, ?_⟩
  unfold eZ at h
  cases ef : f env with
  | ex c => simp only [ef] at h; exact h
  | st => simp only [ef] at h; exact h
  | ok r =>
    simp only [ef] at h
    cases r with
    | cl d => exact h.elim
    | bo d => exact h.elim
    | ow d =>
      cases d <;> first | exact h.elim | skip
      rename_i kvs
      intro F1 H1 v x q
      obtain ⟨l, rfl, n0, f, ks, hl, rk⟩ := q
      refine ⟨l, ks, rfl, hl, fun od => ?_⟩
      have sm : Same F1 (upd F1 l (.frz od (.dK ks))) := fun b u q => by rw [upd_ne (ne_of_none q f)]; exact q
      refine h (upd F1 l (.frz od (.dK ks))) _ _ ⟨fun b u q => ?_, x.ff.trans sm, fun b u q => ?_, fun b u q => ?_⟩ (.dcz upd_same (rk.mono sm))
      · rw [upd_ne (ne_of_none q n0)]; exact x.hh b u q
      · by_cases hb : b = l
        · subst hb; rw [upd_same] at q ⊢; exact q
        · rw [upd_ne hb] at q ⊢; exact x.fh b u q
      · by_cases hb : b = l
        · subst hb; exact .inl n0
        · rw [upd_ne hb] at q; exact x.nw b u q
/-! ### what a locked dict is walked by -/
def keyD : Key → D
  | .inl i => .int i
  | .inr z => .str z
theorem key_DR {F : Hp} (k : Key) : DR K F (kV k) (keyD k) := by
  cases k with
  | inl i => exact .int i
  | inr z => exact .str z
theorem DRk.getK {F : Hp} : ∀ {ks : List (Key × V)} {kvs : List (Key × D)} {i : Nat} {k : Key} {v : V}, DRk K F ks kvs → ks[i]? = some (k, v) → ∃ d, kvs[i]? = some (k, d) ∧ DR K F v d
  | _, _, _, _, _, .nil, e => by simp at e
  | _, _, 0, _, _, .cons h r, e => by simp at e; obtain ⟨rfl, rfl⟩ := e; exact ⟨_, rfl, h⟩
  | _, _, i + 1, k, v, .cons h r, e => by
    obtain ⟨d, a, b⟩ := DRk.getK (i := i) r (by simpa using e)
    exact ⟨d, by simpa using a, b⟩
theorem itd_keys {F G : Hp} {d : Addr} {o : Obj} {ks : List (Key × V)} {kvs : List (Key × D)} (h : G d = some (.frz o (.dK ks))) (r : DRk K F ks kvs) (hz : kvs.length ≤ 16777216) : ItD K (Itk d o ks) G F (kvs.map fun kv => keyD kv.1) where
  len := by rw [List.length_map]; exact hz
  go := fun i H s hi => by
    rw [List.length_map] at hi
    exact ⟨s _ _ h, by rw [r.len]; exact hi⟩
  yld := fun i F1 H x H' s sf fh y dd hd => by
    obtain ⟨rfl, k, v, e, rfl⟩ := y
    obtain ⟨d', a, b⟩ := r.getK e
    rw [List.getElem?_map, a] at hd
    cases hd
    exact ⟨F1, .refl fh, key_DR k⟩
  stop := fun i H s hi => by
    rw [List.length_map] at hi
    exact ⟨s _ _ h, by rw [r.len]; exact hi⟩
theorem itd_vals {F G : Hp} {d : Addr} {o : Obj} {ks : List (Key × V)} {kvs : List (Key × D)} (h : G d = some (.frz o (.dK ks))) (r : DRk K F ks kvs) (hz : kvs.length ≤ 16777216) : ItD K (Itd d o ks) G F (kvs.map fun kv => kv.2) where
  len := by rw [List.length_map]; exact hz
  go := fun i H s hi => by
    rw [List.length_map] at hi
    exact ⟨s _ _ h, by rw [r.len]; exact hi⟩
  yld := fun i F1 H x H' s sf fh y dd hd => by
    obtain ⟨rfl, k, e⟩ := y
    obtain ⟨d', a, b⟩ := r.getK e
    rw [List.getElem?_map, a] at hd
    cases hd
    exact ⟨F1, .refl fh, b.mono sf⟩
  stop := fun i H s hi => by
    rw [List.length_map] at hi
    exact ⟨s _ _ h, by rw [r.len]; exact hi⟩
def ItiN (d : Addr) (o : Obj) (kvs : List (Key × V)) : It :=
  ⟨fun i H => H d = some (.frz o (.dK kvs)) ∧ i < kvs.length, fun i H x H' => ∃ (T : Addr) (ob : Obj) (k : Key) (v : V), kvs[i]? = some (k, v) ∧ x = .ref T ∧ ob.dict = none ∧ H T = none ∧ H' = upd H T (.frz ob (.tup [kV k, v])), fun i H => H d = some (.frz o (.dK kvs)) ∧ kvs.length ≤ i⟩
theorem turn_itemsN {P : Program} {w : World} {K : PySem.W.Frag} {d : Addr} {o : Obj} {es : Array DictEntry} {ep : Nat} {kvs : List (Key × V)} {elts : List Expr} {kk : Nat} {tpos : Pos} (it : Addr) (hod : o.data = .dict es ep) :
    Turn P w K (.Tuple elts kk tpos) (ItiN d o kvs) [it] it (fun i h => ∃ ok ov, IsItemIter h it d i kvs.length ep ok ov) where
  mem := by simp
  obj := fun i h st b hb => by
    have e : b = it := by simpa using hb
    subst e
    obtain ⟨ok, ov, e⟩ := st
    exact ⟨_, e, fun v z => nomatch z⟩
  keep := fun i h h' st k => let ⟨ok, ov, e⟩ := st; ⟨ok, ov, k it (by simp) _ e⟩
  item := by
    intro X hP hw hK hc i pins s σ H E I hf st hg
    subst hP hw hK
    obtain ⟨hd, hi⟩ := hg
    obtain ⟨hs, hgd, hx, es', ep', vs, hdt, hsz, kv, hm⟩ := I.frzK hd
    obtain ⟨rfl, rfl⟩ := dict_ep hod hdt
    obtain ⟨⟨k, v⟩, hkv⟩ : ∃ p, kvs[i]? = some p := ⟨kvs[i], List.getElem?_eq_getElem hi⟩
    obtain ⟨u, hu, ru⟩ := kv_get kv hkv
    have hl : kvs.length = vs.length := Paired.length kv
    obtain ⟨ok, ov, he⟩ := st
    rw [hl] at he
    have hlt : it < s.heap.objs.size := Heap.lt_size he
    refine wpAny_pyNext_items_item he hm hu fun key h' hkey ho hT hz hk => ?_
    refine ⟨_, rfl, wpAny_letOwnedTupleGo_items (s := { s with heap := h' }) ho fun h'' he' sb => ?_⟩
    have hT2 : h''.get? s.heap.objs.size = some { cls := .type "tuple", data := .seq #[key, u] } := (sb.2 _ (Nat.ne_of_gt hlt)).trans hT
    have new : ObjOk X.prog X.w (upd H s.heap.objs.size (.frz { cls := .type "tuple", data := .seq #[key, u] } (.tup [kV k, v]))) h'' s.heap.objs.size (.frz { cls := .type "tuple", data := .seq #[key, u] } (.tup [kV k, v])) :=
      ⟨hT2, by show 2 ≤ sizeLine; decide, [key, u], .cons (relV_key (show keyIs k key = true from hkey)) (.cons ru .nil), ⟨_, hT2, rfl, _, rfl⟩⟩
    have I1 : L2.Inv X pins σ (upd H s.heap.objs.size (.frz { cls := .type "tuple", data := .seq #[key, u] } (.tup [kV k, v]))) { s with heap := h'' } :=
      I.turnedNew (t' := s.toks) (ch := [it]) (fun b ob hb e => (sb.2 b (by simpa using hb)).trans (hk b ob (by simpa using hb) e)) hf (Nat.le_refl _) new
    refine ⟨.ref s.heap.objs.size, _, I1, rfl, ⟨_, _, k, v, hkv, rfl, rfl, I.hok.fresh (Nat.le_refl _), rfl⟩, ⟨key, u, ?_⟩, fun b hb => ?_⟩
    · rw [hl]; exact he'
    · have e : b = it := by simpa using hb
      rw [e, upd_ne (Nat.ne_of_lt hlt)]
      exact (hf it (by simp)).1
  done := by
    intro X hP hw hK hc i pins s σ H E I hf st hg
    subst hP hw hK
    obtain ⟨hd, hi⟩ := hg
    obtain ⟨f0, f1, f2, f3, f4, f5⟩ := hf it (by simp)
    obtain ⟨hs, hgd, hx, es', ep', vs, hdt, hsz, kv, hm⟩ := I.frzK hd
    obtain ⟨rfl, rfl⟩ := dict_ep hod hdt
    have hl : kvs.length = vs.length := Paired.length kv
    obtain ⟨ok, ov, he⟩ := st
    rw [hl] at he
    exact wpAny_pyNext_items_end (I.ok.hd hc) he hm (List.getElem?_eq_none (by omega)) fun h' eb => ⟨rfl, I.turned (t' := s.toks) (fun b ob hb e => eb b ob hb e) f0 f1 f3 f4 f5⟩
  self := fun A i s Q E st h => let ⟨_, _, e⟩ := st; PySem.W.kcp_self e h
def iItemsN (td : TE) : TI := fun σ H R => td σ H fun x H1 => ∃ d o kvs, x = .ref d ∧ H1 d = some (.frz o (.dK kvs)) ∧ R (ItiN d o kvs) H1
theorem pi_itemsN {X : Cx} {e : Expr} {td : TE} {apos cpos : Pos} {elts : List Expr} {kk : Nat} {tpos : Pos} (he : PE X e td) (hbase : attributeBase e "items" X.env (eval e X.env) = eval e X.env := by rfl) (hline : (apos.endLine == cpos.line) = true := by rfl) :
    PI X (.Tuple elts kk tpos) (.Call (.Attribute e "items" apos) [] [] cpos) (iItemsN td) := by
  refine ⟨fun pins s σ H R I h => ?_⟩
  refine wpAny_Call_method (T := "dict") (id := "dict.items") hbase rfl hline F.plainAttrs_dict F.slot_dict_items F.type_dict_items (thn (he.run pins s σ H _ I h) fun u s1 ⟨x, H1, I1, rx, d, o, kvs, ex, hd, q⟩ => ?_)
  subst ex
  obtain rfl : u = Value.ref d := rx
  obtain ⟨hs, hgd, hx, es, ep, vs, hdt, hsz, kv, hm⟩ := I1.frzK hd
  have hl : kvs.length = vs.length := Paired.length kv
  refine ⟨hm.dictOf.typeIs, hm.dictOf.mapOf.noDict, ?_⟩
  have I2 : L2.Inv X pins σ H1 { s1 with heap := s1.heap.push { cls := .type "dict_items", data := .fields #[.ref d] } } := I1.kept (t' := s1.toks) fun b ob q => Heap.get?_push_of_some _ q
  have fin : wpAny (model X.prog X.w) X.A (pyIter (.ref s1.heap.objs.size)) (PIE X pins σ (.Tuple elts kk tpos) R) X.xe { s1 with heap := s1.heap.push { cls := .type "dict_items", data := .fields #[.ref d] } } := by
    refine wpAny_pyIter_items (d := d) (knd := mixKind X.prog X.w) ⟨_, Heap.get?_push_size _ rfl, rfl, rfl⟩ (hm.push _) (pi_one (tk := s1.toks) I2 _ (turn_itemsN _ hdt) ⟨.none, .none, ?_⟩ q)
    rw [hl]
    exact Heap.get?_push_size _ rfl
  show wpAny _ _ (callWith cpos (.builtin "dict.items") [.ref d] [] []) _ X.xe s1
  exact method_meetsIn F.slot_dict_items F.entry_dict_items rfl (PySem.evalArgs_none ⟨rfl, hm.dictOf.typeIs, F.args_dict_items_1 _, _, meets_dict_items (mixKind X.prog X.w) d hs, ⟨vs, hm.dictOf⟩, fin⟩)
theorem itd_items {F G : Hp} {d : Addr} {o : Obj} {ks : List (Key × V)} {kvs : List (Key × D)} (h : G d = some (.frz o (.dK ks))) (r : DRk K F ks kvs) (hz : kvs.length ≤ 16777216) : ItD K (ItiN d o ks) G F (kvs.map fun kv => .tup [keyD kv.1, kv.2]) where
  len := by rw [List.length_map]; exact hz
  go := fun i H s hi => by
    rw [List.length_map] at hi
    exact ⟨s _ _ h, by rw [r.len]; exact hi⟩
  yld := fun i F1 H x H' s sf fh y dd hd => by
    obtain ⟨T, ob, k, v, e, rfl, hn, hT, rfl⟩ := y
    obtain ⟨d', a, b⟩ := r.getK e
    rw [List.getElem?_map, a] at hd
    cases hd
    have x := Ext.new (o := .frz ob (.tup [kV k, v])) fh hT
    exact ⟨_, x, .tup (.new hn) (.cons (key_DR k) (.cons ((b.mono sf).mono x.ff) .nil))⟩
  stop := fun i H s hi => by
    rw [List.length_map] at hi
    exact ⟨s _ _ h, by rw [r.len]; exact hi⟩
def iDz (g : List (Key × D) → List D) (f : Sx) : Ix := fun env => match f env with
  | .ok (.cl (.dcz kvs)) => if kvs.length ≤ 16777216 then .ok (true, g kvs) else .st
  | .ok _ => .st
  | .ex c => .ex c
  | .st => .st
def keysZ (kvs : List (Key × D)) : List D := kvs.map fun kv => keyD kv.1
def valsZ (kvs : List (Key × D)) : List D := kvs.map fun kv => kv.2
def itemsZ (kvs : List (Key × D)) : List D := kvs.map fun kv => .tup [keyD kv.1, kv.2]
theorem tI_dz {mg : Str → Option Value} {f : Sx} {g : List (Key × D) → List D} {J : Addr → Obj → List (Key × V) → It} (hJ : ∀ {F G : Hp} {d : Addr} {o : Obj} {ks : List (Key × V)} {kvs : List (Key × D)}, G d = some (.frz o (.dK ks)) → DRk K F ks kvs → kvs.length ≤ 16777216 → ItD K (J d o ks) G F (g kvs))
    {σ : Sg} {H : Hp} {R' : It → Hp → Prop} (z : tI K mg W (iDz g f) σ H R') : tE K mg W f σ H fun x H1 => ∃ d o ks, x = .ref d ∧ H1 d = some (.frz o (.dK ks)) ∧ R' (J d o ks) H1 := by
  obtain ⟨F, env, rl, z⟩ := z
  refine ⟨F, env, rl, ?_⟩
  unfold iDz at z
  cases ef : f env with
  | ex c => simp only [ef] at z; exact z
  | st => simp only [ef] at z; exact z
  | ok r =>
    simp only [ef] at z
    cases r with
    | bo d => exact z.elim
    | ow d => exact z.elim
    | cl d =>
      cases d <;> first | exact z.elim | skip
      rename_i kvs
      by_cases c : kvs.length ≤ 16777216
      · simp only [if_pos c] at z
        intro F1 H1 v x q
        cases q with
        | dcz h r => exact ⟨_, _, _, rfl, x.fh _ _ h, z F1 H1 F1 _ x x.fh (fun _ => rfl) (hJ h r c)⟩
      · simp only [if_neg c] at z
        exact z.elim
theorem iv_keys {tg e : Expr} {f : Sx} (he : EV X W e f) : IV X W tg e (iDz keysZ f) := (pi_keys he).imp fun σ H R z => by
  obtain ⟨F, env, rl, z⟩ := tI_dz (J := Itk) itd_keys z
  exact ⟨F, env, rl, z.mono fun v H' ⟨d, o, ks, e, h, q⟩ => ⟨d, o, e, .inl ⟨ks, h, q⟩⟩⟩
theorem iv_values {tg e : Expr} {apos cpos : Pos} {f : Sx} (he : EV X W e f) (hbase : attributeBase e "values" X.env (eval e X.env) = eval e X.env := by rfl) (hline : (apos.endLine == cpos.line) = true := by rfl) :
    IV X W tg (.Call (.Attribute e "values" apos) [] [] cpos) (iDz valsZ f) := (pi_values he hbase hline).imp fun σ H R z => tI_dz (J := Itd) itd_vals z
theorem iv_items {elts : List Expr} {kk : Nat} {tpos : Pos} {e : Expr} {apos cpos : Pos} {f : Sx} (he : EV X W e f) (hbase : attributeBase e "items" X.env (eval e X.env) = eval e X.env := by rfl) (hline : (apos.endLine == cpos.line) = true := by rfl) :
    IV X W (.Tuple elts kk tpos) (.Call (.Attribute e "items" apos) [] [] cpos) (iDz itemsZ f) := (pi_itemsN he hbase hline).imp fun σ H R z => tI_dz (J := ItiN) itd_items z
/-! ### dicts compared -/
def dLookSc (kvs : List (Key × D)) (k : Key) (d : D) : Bool := match dLook kvs k, d with
  | some (.int a), .int b => decide (a = b)
  | some (.bl a), .bl b => decide (a = b)
  | _, _ => false
theorem dLookSc_eq {kvs : List (Key × D)} {k : Key} {d : D} (h : dLookSc kvs k d = true) : dLook kvs k = some d ∧ d.sc = true := by
  unfold dLookSc at h
  split at h
  · rename_i q
    rw [of_decide_eq_true h] at q
    exact ⟨q, rfl⟩
  · rename_i q
    rw [of_decide_eq_true h] at q
    exact ⟨q, rfl⟩
  · cases h
/-- the same keys, the same whole numbers or truths behind them -/
def sameK (ks ls : List (Key × D)) : Bool := decide (ks.length = ls.length) && ks.all fun p => dLookSc ls p.1 p.2
def dEqK : D → D → Out R
  | .dct ks, .dct ls => if sameK ks ls = true then cB true else .st
  | a, b => dEq a b
def dNeK : D → D → Out R
  | .dct ks, .dct ls => if sameK ks ls = true then cB false else .st
  | a, b => dNe a b
theorem sc_one {F F' : Hp} {v u : V} {d : D} (s : d.sc = true) (h : DR K F v d) (h' : DR K F' u d) : v = u ∧ flatB v = true := by
  cases h <;> first | (cases s; done) | skip
  all_goals (cases h'; exact ⟨rfl, rfl⟩)
theorem sameK_v {F : Hp} {ks ls : List (Key × D)} {us vs : List (Key × V)} (h : sameK ks ls = true) (r1 : DRk K F us ks) (r2 : DRk K F vs ls) : us.length = vs.length ∧ ∀ p ∈ us, valV vs p.1 = some p.2 ∧ flatB p.2 = true := by
  unfold sameK at h
  rw [Bool.and_eq_true, decide_eq_true_iff] at h
  refine ⟨by rw [r1.len, r2.len]; exact h.1, fun p hp => ?_⟩
  obtain ⟨i, hi⟩ := List.getElem?_of_mem hp
  obtain ⟨d, hd, rd⟩ := r1.getK (k := p.1) (v := p.2) hi
  obtain ⟨e, sc⟩ := dLookSc_eq (List.all_eq_true.mp h.2 _ (List.mem_of_getElem? hd))
  have lk := r2.look (k := p.1)
  rw [e] at lk
  obtain ⟨u, lk, ru⟩ := lk
  obtain ⟨e1, e2⟩ := sc_one sc rd ru
  exact ⟨by rw [e1]; exact lk, e2⟩
def rEqK (K : PySem.W.Frag) : R2 := fun x y H Q => rEqD K x y H Q ∨ rEqDA x y H Q
def rNeK (K : PySem.W.Frag) : R2 := fun x y H Q => rNeD K x y H Q ∨ rNeDA x y H Q
theorem op_eqK (hu : X.A.units + 64 < cLine) : OpR X (compareOp .Eq) (rEqK X.K) := (op_eqD hu).or (op_eq_dictA (by omega))
theorem op_neK (hu : X.A.units + 64 < cLine) : OpR X (compareOp .NotEq) (rNeK X.K) := (op_neD hu).or (op_ne_dictA (by omega))
theorem o2_eqK : Op2 K (rEqK K) dEqK := by
  intro F H x y a b Q s hx hy h
  unfold dEqK at h
  split at h
  · obtain ⟨c, h⟩ := if_some h
    obtain ⟨l, us, rfl, e1, r1⟩ := hx.dct s
    obtain ⟨m, vs, rfl, e2, r2⟩ := hy.dct s
    obtain ⟨q1, q2⟩ := sameK_v c r1 r2
    exact .inr ⟨l, m, us, vs, rfl, rfl, e1, e2, q1, q2, okV_cl s h (.bl _)⟩
  · exact .inl (o2_eq F H x y _ _ Q s hx hy h)
theorem o2_neK : Op2 K (rNeK K) dNeK := by
  intro F H x y a b Q s hx hy h
  unfold dNeK at h
  split at h
  · obtain ⟨c, h⟩ := if_some h
    obtain ⟨l, us, rfl, e1, r1⟩ := hx.dct s
    obtain ⟨m, vs, rfl, e2, r2⟩ := hy.dct s
    obtain ⟨q1, q2⟩ := sameK_v c r1 r2
    exact .inr ⟨l, m, us, vs, rfl, rfl, e1, e2, q1, q2, okV_cl s h (.bl _)⟩
  · exact .inl (o2_ne F H x y _ _ Q s hx hy h)
theorem n_eqK : ∀ a b, noEx (dEqK a b) := by
  intro a b; unfold dEqK cB; repeat' (first | trivial | exact n_eq _ _ | split)
theorem n_neK : ∀ a b, noEx (dNeK a b) := by
  intro a b; unfold dNeK cB; repeat' (first | trivial | exact n_ne _ _ | split)
end
end Fs

set_option maxHeartbeats 4000000
namespace Fs
open PySem PySem.Spec PyProof.Rows L2

/-! ### zip of two sequences, each a list or a tuple -/
def SqA (K : PySem.W.Frag) : Bool → Hp → Addr → List V → Prop
  | true => SqT K
  | false => SqL K
def IsA : Bool → Heap → Addr → Array Value → Prop
  | true => Heap.IsTuple
  | false => Heap.IsList
def AtA : Bool → Heap → Addr → Addr → Nat → Prop
  | true => Heap.IsTupleIter
  | false => Heap.IsListIter
def objA (t : Bool) (l : Addr) : Obj := { cls := .type (if t then "tuple_iterator" else "list_iterator"), data := .fields #[.ref l, .int 0 0] }
theorem atA_new (t : Bool) {h : Heap} {i l : Addr} (e : h.get? i = some (objA t l)) : AtA t h i l 0 := by
  cases t
  · exact ⟨_, e, rfl, rfl⟩
  · exact ⟨_, e, rfl, rfl⟩
theorem begins_A (t : Bool) (l : Addr) (items : Array Value) : Begins (.ref l) (objA t l) fun h => IsA t h l items := by
  cases t
  · exact begins_list l items
  · exact begins_tuple l items
theorem draws_A {P : Program} {w : World} {A : Around} (t : Bool) (hh : A.handled = none) (it l : Addr) (hne : l ≠ it) (items : Array Value) :
    Draws P w A it [it, l] items.size (fun i v => items[i]? = some v) (fun i h => AtA t h it l i ∧ IsA t h l items) := by
  cases t
  · exact Draws.list hh it l hne items
  · exact Draws.tuple hh it l hne items
theorem AtA.keep {t : Bool} {h h' : Heap} {i l : Addr} {k : Nat} (x : AtA t h i l k) (e : ∀ o, h.get? i = some o → h'.get? i = some o) : AtA t h' i l k := by
  cases t
  · exact Heap.IsListIter.at x e
  · obtain ⟨o, g, r⟩ := x
    exact ⟨o, e o g, r⟩
theorem AtA.obj {t : Bool} {h : Heap} {i l : Addr} {k : Nat} (x : AtA t h i l k) : ∃ o, h.get? i = some o ∧ ∀ v, o.data ≠ .cell v := by
  cases t
  · obtain ⟨o, g, _, d⟩ := x
    exact ⟨o, g, fun v q => by rw [d] at q; cases q⟩
  · obtain ⟨o, g, _, d⟩ := x
    exact ⟨o, g, fun v q => by rw [d] at q; cases q⟩
section
variable {X : Cx} {pins : List (Addr × Obj)} {σ : Sg} {H : Hp} {s : Shared}
theorem sqA_get {t : Bool} {a : Addr} {xs : List V} (I : L2.Inv X pins σ H s) (h : SqA X.K t H a xs) : ∃ its : List Value, Vals xs its ∧ IsA t s.heap a its.toArray ∧ a < s.heap.objs.size := by
  cases t
  · obtain ⟨its, rv, p, _⟩ := I.list h
    exact ⟨its, rv, p.isList, p.lt⟩
  · obtain ⟨its, rv, p, _⟩ := I.tuple h
    obtain ⟨o, g, _⟩ := id p
    exact ⟨its, rv, p, Heap.lt_size g⟩
theorem sqA_one {t : Bool} {a : Addr} {xs ys : List V} (I : L2.Inv X pins σ H s) (h : SqA X.K t H a xs) (h' : SqA X.K t H a ys) : xs = ys := by
  cases t
  · exact I.list_inj h h'
  · exact I.tuple_inj h h'
end
/-- n pairs of the sequences at a and at b -/
def ItzX (K : PySem.W.Frag) (t u : Bool) (a b : Addr) (n : Nat) : It :=
  ⟨fun i H => i < n ∧ ∃ (xs ys : List V), SqA K t H a xs ∧ SqA K u H b ys ∧ min xs.length ys.length = n,
    fun i H v H' => ∃ T ob x y, v = .ref T ∧ ob.dict = none ∧ H T = none ∧ H' = upd H T (.frz ob (.tup [x, y])) ∧ (∀ xs, SqA K t H a xs → xs[i]? = some x) ∧ ∀ ys, SqA K u H b ys → ys[i]? = some y,
    fun i H => n ≤ i ∧ ∃ (xs ys : List V), SqA K t H a xs ∧ SqA K u H b ys ∧ min xs.length ys.length = n⟩
/-- the five cells of a zip, at the places from p on -/
def ZipAt (t u : Bool) (a b p n : Nat) (i : Nat) (h : Heap) : Prop := i ≤ n ∧ a < p ∧ b < p ∧ IsZip h (p + 4) (p + 2) (p + 3) .none ∧ IsTupOf2 h (p + 2) (.ref p) (.ref (p + 1)) ∧ (∃ x y, IsTupOf2 h (p + 3) x y) ∧ AtA t h p a i ∧ AtA u h (p + 1) b i
theorem ne_A {a b : Nat} (h : a < b ∨ b < a) : a ≠ b := by omega
theorem out2 {c x y : Nat} (h1 : c < x ∨ x < c) (h2 : c < y ∨ y < c) : c ∉ [x, y] := by
  simp only [List.mem_cons, List.not_mem_nil, or_false]
  omega
theorem sep_at {a b p : Nat} (ha : a < p) (hb : b < p) : ZipSep2 (p + 4) (p + 2) (p + 3) p (p + 1) [p, a] [p + 1, b] :=
  ⟨ne_A (by omega), ne_A (by omega), ne_A (by omega), ne_A (by omega), List.mem_cons_self, out2 (by omega) (by omega), out2 (by omega) (by omega), ne_A (by omega), List.mem_cons_self, out2 (by omega) (by omega), out2 (by omega) (by omega), out2 (by omega) (by omega), out2 (by omega) (by omega)⟩
theorem mem5 {c p : Nat} : c ∈ [p + 4, p + 2, p + 3, p, p + 1] ↔ c = p + 4 ∨ c = p + 2 ∨ c = p + 3 ∨ c = p ∨ c = p + 1 := by simp
theorem lt5 {c p q : Nat} (h : c ∈ [p + 4, p + 2, p + 3, p, p + 1]) (hq : p + 4 < q) : c < q := by
  rcases mem5.mp h with rfl | rfl | rfl | rfl | rfl <;> omega
theorem turn_zipX {P : Program} {w : World} {K : PySem.W.Frag} {elts : List Expr} {kk : Nat} {tpos : Pos} {t u : Bool} {a b p n : Nat} :
    Turn P w K (.Tuple elts kk tpos) (ItzX K t u a b n) [p + 4, p + 2, p + 3, p, p + 1] (p + 4) (ZipAt t u a b p n) where
  mem := List.mem_cons_self
  obj := fun i h st c hc => by
    obtain ⟨_, _, _, hz, hTI, ⟨x, y, hTO⟩, h1, h2⟩ := st
    rcases mem5.mp hc with rfl | rfl | rfl | rfl | rfl
    · exact ⟨_, hz, fun v q => nomatch q⟩
    · exact ⟨_, hTI, fun v q => nomatch q⟩
    · exact ⟨_, hTO, fun v q => nomatch q⟩
    · exact h1.obj
    · exact h2.obj
  keep := fun i h h' st k => by
    obtain ⟨c1, c2, c3, hz, hTI, ⟨x, y, hTO⟩, h1, h2⟩ := st
    exact ⟨c1, c2, c3, k _ (mem5.mpr (.inl rfl)) _ hz, k _ (mem5.mpr (.inr (.inl rfl))) _ hTI, ⟨x, y, k _ (mem5.mpr (.inr (.inr (.inl rfl)))) _ hTO⟩,
      h1.keep (k _ (mem5.mpr (.inr (.inr (.inr (.inl rfl)))))), h2.keep (k _ (mem5.mpr (.inr (.inr (.inr (.inr rfl))))))⟩
  item := by
    intro X hP hw hK hc i pins s σ H E I hf st hg
    subst hP hw hK
    obtain ⟨c1, c2, c3, hz, hTI, ⟨x0, y0, hTO⟩, h1, h2⟩ := st
    obtain ⟨hi, xs, ys, qx, qy, hn⟩ := hg
    obtain ⟨its, rv, p1, _⟩ := sqA_get I qx
    obtain ⟨jts, rw', p2, _⟩ := sqA_get I qy
    have l1 := rv.length
    have l2 := rw'.length
    have hh : X.A.in1.handled = none := by simp [I.ok.hd hc]
    refine wpAny_pyNext_zipD2_item (sep_at c2 c3) (draws_A t hh p a (ne_A (by omega)) its.toArray) (draws_A u hh (p + 1) b (ne_A (by omega)) jts.toArray) hz hTI hTO ⟨h1, p1⟩ ⟨h2, p2⟩ (by simp; omega) (by simp; omega) fun v1 v2 h' tk y1 y2 hz' hTO' s1 s2 hT hsz hk => ?_
    have hzl : p + 4 < s.heap.objs.size := Heap.lt_size hz
    obtain ⟨x, ex⟩ : ∃ x, xs[i]? = some x := ⟨_, List.getElem?_eq_getElem (by omega)⟩
    obtain ⟨y, ey⟩ : ∃ y, ys[i]? = some y := ⟨_, List.getElem?_eq_getElem (by omega)⟩
    obtain ⟨u1, e1, r1⟩ := rv.get ex
    obtain ⟨u2, e2, r2⟩ := rw'.get ey
    have e1' : v1 = u1 := by
      have : its[i]? = some v1 := by simpa using y1
      rw [e1] at this; cases this; rfl
    have e2' : v2 = u2 := by
      have : jts[i]? = some v2 := by simpa using y2
      rw [e2] at this; cases this; rfl
    subst e1' e2'
    refine ⟨_, rfl, wpAny_letOwnedTupleGo_zip (s := { s with heap := h', toks := tk }) hz' fun h'' z'' sb => ?_⟩
    have hT2 : h''.get? s.heap.objs.size = some { cls := .type "tuple", data := .seq #[v1, v2] } := (sb.2 _ (Nat.ne_of_gt hzl)).trans hT
    have keep : ∀ c o, c ∉ [p + 4, p + 2, p + 3, p, p + 1] → s.heap.get? c = some o → h''.get? c = some o := fun c o hb q =>
      (sb.2 c fun z => hb (mem5.mpr (.inl z))).trans (hk c o (fun z => hb (mem5.mpr (.inl z))) (fun z => hb (mem5.mpr (.inr (.inr (.inl z))))) (fun z => hb (mem5.mpr (.inr (.inr (.inr (.inl z)))))) (fun z => hb (mem5.mpr (.inr (.inr (.inr (.inr z)))))) q)
    have new : ObjOk X.prog X.w (upd H s.heap.objs.size (.frz { cls := .type "tuple", data := .seq #[v1, v2] } (.tup [x, y]))) h'' s.heap.objs.size (.frz { cls := .type "tuple", data := .seq #[v1, v2] } (.tup [x, y])) := ⟨hT2, by show 2 ≤ sizeLine; decide, [v1, v2], .cons r1 (.cons r2 .nil), ⟨_, hT2, rfl, _, rfl⟩⟩
    have I1 := I.turnedNew (t' := tk) keep hf (Nat.le_refl _) new
    refine ⟨.ref s.heap.objs.size, _, I1, rfl, ⟨_, _, x, y, rfl, rfl, I.hok.fresh (Nat.le_refl _), rfl, fun l hl => by rw [sqA_one I hl qx]; exact ex, fun l hl => by rw [sqA_one I hl qy]; exact ey⟩, ⟨by omega, c2, c3, z'', ?_, ⟨v1, v2, ?_⟩, ?_, ?_⟩, fun c hcm => ?_⟩
    · exact (sb.2 _ (ne_A (by omega))).trans (hk _ _ (ne_A (by omega)) (ne_A (by omega)) (ne_A (by omega)) (ne_A (by omega)) hTI)
    · exact (sb.2 _ (ne_A (by omega))).trans hTO'
    · exact s1.1.keep fun o q => (sb.2 _ (ne_A (by omega))).trans q
    · exact s2.1.keep fun o q => (sb.2 _ (ne_A (by omega))).trans q
    · have hlt : c < s.heap.objs.size := lt5 hcm hzl
      rw [upd_ne (Nat.ne_of_lt hlt)]
      exact (hf c hcm).1
  done := by
    intro X hP hw hK hc i pins s σ H E I hf st hg
    subst hP hw hK
    obtain ⟨c1, c2, c3, hz, hTI, ⟨x0, y0, hTO⟩, h1, h2⟩ := st
    obtain ⟨hi, xs, ys, qx, qy, hn⟩ := hg
    obtain ⟨its, rv, p1, _⟩ := sqA_get I qx
    obtain ⟨jts, rw', p2, _⟩ := sqA_get I qy
    have l1 := rv.length
    have l2 := rw'.length
    have hh : X.A.in1.handled = none := by simp [I.ok.hd hc]
    refine wpAny_pyNext_zipD2_end (sep_at c2 c3) (draws_A t hh p a (ne_A (by omega)) its.toArray) (draws_A u hh (p + 1) b (ne_A (by omega)) jts.toArray) hz hTI hTO ⟨h1, p1⟩ ⟨h2, p2⟩ (by simp; omega) (by simp; omega) (by simp; omega) fun h' tk hk => ⟨rfl, ?_⟩
    exact I.turnedL (t' := tk) (fun c o hb q => hk c o (fun z => hb (mem5.mpr (.inl z))) (fun z => hb (mem5.mpr (.inr (.inr (.inl z))))) (fun z => hb (mem5.mpr (.inr (.inr (.inr (.inl z)))))) (fun z => hb (mem5.mpr (.inr (.inr (.inr (.inr z)))))) q) hf
  self := fun A i s Q E st h => wpAny_pyIter_zip st.2.2.2.1 h
def iZipX (K : PySem.W.Frag) (ta : TA) : TI := fun σ H R => ta σ H fun vs H1 => ∃ (a b : Addr) (t u : Bool) (xs ys : List V), vs = [.ref a, .ref b] ∧ SqA K t H1 a xs ∧ SqA K u H1 b ys ∧ R (ItzX K t u a b (min xs.length ys.length)) H1
theorem pi_zipX {X : Cx} {e e2 : Expr} {ta : TA} {p pos tpos : Pos} {elts : List Expr} {kk : Nat} (hg : Gl X "zip") (hm : X.mg "zip" = none) (ha : PA X [e, e2] ta)
    (hs : starEach [e, e2] X.env = (false, eval e X.env) :: starEach [e2] X.env := by rfl) (hpl : (backTo pos (starEach [e2] X.env)).any (·.1) = false := by rfl) :
    PI X (.Tuple elts kk tpos) (.Call (.Name "zip" p) [e, e2] [] pos) (iZipX X.K ta) := by
  refine ⟨fun pins s σ H R I h => Call_ (ld_blt I hg hm PyProof.Rows.boot_zip (PyProof.Rows.callWith_type1 (thn (ha.run pos pins s σ H _ I h) fun us s1 ⟨vs, H1, I1, r1, q1⟩ => ?_) hs hpl))⟩
  obtain ⟨a, b, t, u, xs, ys, rfl, qx, qy, q⟩ := q1
  obtain ⟨u1, u2, rfl, e1, e2⟩ := Vals.two r1
  obtain rfl : u1 = Value.ref a := e1
  obtain rfl : u2 = Value.ref b := e2
  obtain ⟨its, rv, p1, la⟩ := sqA_get I1 qx
  obtain ⟨jts, rw', p2, lb⟩ := sqA_get I1 qy
  refine zip_begins2 (begins_A t a its.toArray) (begins_A u b jts.toArray) p1 p2 fun h' hz hTI hTO g1 g2 hsz hk => wpAny_pyIter_zip hz ?_
  have fresh5 : ∀ c, c ∈ [s1.heap.objs.size + 4, s1.heap.objs.size + 2, s1.heap.objs.size + 3, s1.heap.objs.size, s1.heap.objs.size + 1] → FpOk X pins H1 c := fun c hcm => by
    have hle : s1.heap.objs.size ≤ c := by rcases mem5.mp hcm with rfl | rfl | rfl | rfl | rfl <;> omega
    exact I1.fpOk hle (I1.hok.fresh hle)
  exact ⟨_, _, _, _, H1, rfl, I1.kept (t' := s1.toks) hk, turn_zipX (a := a) (b := b) (p := s1.heap.objs.size), ⟨Nat.zero_le _, la, lb, hz, hTI, ⟨_, _, hTO⟩, atA_new t g1, atA_new u g2⟩, fresh5, q⟩
end Fs
namespace Fs
open PySem PySem.Spec PyProof.Rows L2
/-! ### zip by data -/
def seqD : D → Option (List D)
  | .lst ds => some ds
  | .tup ds => some ds
  | .scr ns => some (ns.map D.int)
  | _ => none
def zipD (ds es : List D) : List D := List.zipWith (fun d e => D.tup [d, e]) ds es
def iZip (fs : List Sx) : Ix := fun env => match evArgs fs env with
  | .ok [d, e] => (match seqD d, seqD e with
    | some ds, some es => if ds.length ≤ 16777216 then .ok (true, zipD ds es) else .st
    | _, _ => .st)
  | .ok _ => .st
  | .ex c => .ex c
  | .st => .st
section
variable {X : Cx} {W : WX} {pos : Pos} {K : PySem.W.Frag}
theorem sqA_same {H H' : Hp} {t : Bool} {a : Addr} {xs : List V} (e : Same H H') (h : SqA K t H a xs) : SqA K t H' a xs := by
  cases t
  · exact e.seq h
  · exact sameT e h
theorem seqD_A {F : Hp} {v : V} {d : D} {ds : List D} (h : DR K F v d) (e : seqD d = some ds) : ∃ (a : Addr) (t : Bool) (xs : List V), v = .ref a ∧ SqA K t F a xs ∧ DRs K F xs ds := by
  cases h <;> simp only [seqD, Option.some.injEq] at e <;> first | (cases e; done) | skip
  · rename_i h r
    subst e
    exact ⟨_, true, _, rfl, h.t, r⟩
  · rename_i h r
    subst e
    exact ⟨_, false, _, rfl, .of h, r⟩
  · rename_i h
    subst e
    exact ⟨_, false, _, rfl, h, .of_ints _⟩
theorem itd_zip {F G : Hp} {t u : Bool} {a b : Addr} {xs ys : List V} {ds es : List D} (h1 : SqA K t G a xs) (h2 : SqA K u G b ys) (r1 : DRs K F xs ds) (r2 : DRs K F ys es) (hz : ds.length ≤ 16777216) : ItD K (ItzX K t u a b (min xs.length ys.length)) G F (zipD ds es) := by
  have hl : (zipD ds es).length = min xs.length ys.length := by unfold zipD; rw [List.length_zipWith, r1.len, r2.len]
  refine ⟨?_, fun i H s hi => ?_, fun i F1 H x H' s sf fh y dd hd => ?_, fun i H s hi => ?_⟩
  · rw [hl, r1.len]; omega
  · rw [hl] at hi
    exact ⟨hi, xs, ys, sqA_same s h1, sqA_same s h2, rfl⟩
  · obtain ⟨T, ob, p, q, rfl, hn, hT, rfl, y1, y2⟩ := y
    obtain ⟨d, e1, rd⟩ := r1.get' (y1 xs (sqA_same s h1))
    obtain ⟨e, e2, re⟩ := r2.get' (y2 ys (sqA_same s h2))
    have hd' : dd = .tup [d, e] := by
      unfold zipD at hd
      rw [List.getElem?_zipWith, e1, e2] at hd
      cases hd
      rfl
    subst hd'
    have x := Ext.new (o := .frz ob (.tup [p, q])) fh hT
    exact ⟨_, x, .tup (.new hn) (.cons ((rd.mono sf).mono x.ff) (.cons ((re.mono sf).mono x.ff) .nil))⟩
  · rw [hl] at hi
    exact ⟨hi, xs, ys, sqA_same s h1, sqA_same s h2, rfl⟩
theorem iv_zip {e e2 : Expr} {fs : List Sx} {p tpos : Pos} {elts : List Expr} {kk : Nat} (hc : X.calm = true) (hg : Gl X "zip") (hm : X.mg "zip" = none) (ha : AV X W [e, e2] fs)
    (hs : starEach [e, e2] X.env = (false, eval e X.env) :: starEach [e2] X.env := by rfl) (hpl : (backTo pos (starEach [e2] X.env)).any (·.1) = false := by rfl) :
    IV X W (.Tuple elts kk tpos) (.Call (.Name "zip" p) [e, e2] [] pos) (iZip fs) := (pi_zipX hg hm ha hs hpl).imp fun σ H R z => by
  obtain ⟨F, env, rl, z⟩ := z
  refine ⟨F, env, rl, ?_⟩
  unfold iZip at z
  cases ef : evArgs fs env with
  | ex c => simp only [ef] at z; exact z
  | st => simp only [ef] at z; exact z
  | ok ds =>
    simp only [ef] at z
    match ds, z with
    | [], z => exact z.elim
    | [_], z => exact z.elim
    | _ :: _ :: _ :: _, z => exact z.elim
    | [d, e], z =>
      simp only [] at z
      cases e1 : seqD d with
      | none => simp only [e1] at z; exact z.elim
      | some as =>
        cases e2 : seqD e with
        | none => simp only [e1, e2] at z; exact z.elim
        | some bs =>
          simp only [e1, e2] at z
          by_cases c : as.length ≤ 16777216
          · simp only [if_pos c] at z
            intro F1 H1 vs x rs
            cases rs with
            | cons q1 rs =>
              cases rs with
              | cons q2 rs =>
                cases rs
                obtain ⟨a, t, xs, rfl, s1, r1⟩ := seqD_A q1 e1
                obtain ⟨b, u, ys, rfl, s2, r2⟩ := seqD_A q2 e2
                exact ⟨a, b, t, u, xs, ys, rfl, sqA_same x.fh s1, sqA_same x.fh s2, z F1 H1 F1 _ x x.fh (fun _ => rfl) (itd_zip s1 s2 r1 r2 c)⟩
          · simp only [if_neg c] at z
            exact z.elim
end
end Fs

set_option maxHeartbeats 4000000
namespace Fs
open PySem PySem.Spec PyProof.Rows L2
/-! ### a dict is no list -/
theorem list_no_dict (l b : Addr) (items : Array Value) (n : Nat) (dd : Option Addr) (sl : Array (Option Value)) :
    Meets (Builtin.«list.__ne__» ⟨[.ref l, .ref b], []⟩) (fun _ R s => (s.heap.get? l = some { cls := .type "list", dict := dd, data := .seq items n, slots := sl } ∧ s.TypeIs (.ref b) "dict") ∧ R (.ok (.ret .notImplemented)) s) :=
  .of_wp fun prog w A R s h => by
    obtain ⟨hp, g, d, tk, os⟩ := s
    obtain ⟨⟨hl, hb⟩, h⟩ := h
    obtain ⟨⟨cls2, dd2, data2, sl2⟩, ho, hc⟩ := hb
    simp only at hc
    subst hc
    have f1 := F.sub_dict_list
    wp_walk using wpAny_loadPart' hl, wpAny_loadPart' ho
    exact ⟨_, rfl, h⟩
section
variable {X : Cx}
def rNeDL (K : PySem.W.Frag) : R2 := fun x y H Q => ∃ a b ks xs, x = .ref a ∧ y = .ref b ∧ H a = some (.dK ks) ∧ SqL K H b xs ∧ Q (.bl true) H
theorem op_neDL (hu : X.A.units < cLine) : OpR X (compareOp .NotEq) (rNeDL X.K) := by
  intro pins s σ H x y v u Q I rx ry h
  obtain ⟨a, b, ks, xs, rfl, rfl, ea, eb, q⟩ := h
  obtain rfl : v = Value.ref a := rx
  obtain rfl : u = Value.ref b := ry
  obtain ⟨_, ya, va, ra, da⟩ := (show ObjOk X.prog X.w H s.heap a (.dK ks) from I.hok a _ ea)
  obtain ⟨its, rv, p, _⟩ := I.list eb
  obtain ⟨⟨cls, dd, data, sl⟩, ho, hc, n, hd⟩ := id p.isList
  simp only at hc hd
  subst hc hd
  obtain ⟨oa, ga, ca⟩ := da.typeIs
  have hne : a ≠ b := fun z => by
    subst z
    rw [ga] at ho
    cases ho
    simp at ca
  refine SeqAt.rc_ne_decline_or (k := false) da.typeIs ⟨_, ho, rfl⟩ (by decide) F.sub_list_dict F.slot_dict_ne F.slot_list_ne_refl (fun Q' hq => ?_)
    (fun Q' hq => call_meets F.slot_list_ne_refl ⟨_, ho, rfl⟩ F.entry_list_ne (F.args_list_ne_2 _ _) (list_no_dict b a _ n dd sl) ⟨⟨ho, da.typeIs⟩, hq⟩)
    (fun Q' hq => wpAny_isSame_ref_other hne ga ho (by rw [ca]; simp) hq) (.inr hu) ⟨.bl true, H, I, rfl, q⟩
  refine wpAny_call_entry F.slot_dict_ne da.typeIs F.entry_dict_ne ?_ (F.args_dict_ne_2 _ _)
  show wpAny _ _ (Builtin.Dict.dictSlotArgs "__ne__" ⟨[.ref a, .ref b], []⟩ >>= _) _ _ s
  refine wpAny_bind ?_
  unfold Builtin.Dict.dictSlotArgs
  refine wpAny_bind (wpAny_notOrdered_dict da.typeIs (wpAny_pure ?_))
  refine wpAny_bind (wpAny_isInstance (T := "list") (b := false) ⟨_, ho, rfl⟩ F.sub_list_dict ?_)
  simp only [Bool.not_false, if_true]
  exact wpAny_bind (wpAny_rule (wpAny_bind (wpAny_pure (wpAny_pure ⟨_, rfl, hq⟩))))
variable {K : PySem.W.Frag}
def dNeA : D → D → Out R
  | .dct _, .lst _ => cB true
  | a, b => dNe a b
def rNeA (K : PySem.W.Frag) : R2 := fun x y H Q => rNeD K x y H Q ∨ rNeDL K x y H Q
theorem op_neA (hu : X.A.units + 64 < cLine) : OpR X (compareOp .NotEq) (rNeA X.K) := (op_neD hu).or (op_neDL (by omega))
theorem o2_neA : Op2 K (rNeA K) dNeA := by
  intro F H x y a b Q s hx hy h
  unfold dNeA at h
  split at h
  · obtain ⟨l, us, rfl, e1, r1⟩ := hx.dct s
    obtain ⟨m, vs, rfl, e2, r2⟩ := hy.lst s
    exact .inr ⟨l, m, us, vs, rfl, rfl, e1, .of e2, okV_cl s h (.bl _)⟩
  · exact .inl (o2_ne F H x y _ _ Q s hx hy h)
theorem n_neA : ∀ a b, noEx (dNeA a b) := by
  intro a b; unfold dNeA cB; repeat' (first | trivial | exact n_ne _ _ | split)
end
end Fs

set_option maxHeartbeats 4000000
namespace Fs
open PySem PySem.Spec PyProof.Rows L2

/-! ### a dict of own lists, filled in a nest of loops -/
abbrev Mo := List (Key × List D)
/-- setdefault(k, []).append(d) -/
def moAdd : Mo → Key → D → Mo
  | [], k, d => [(k, [d])]
  | p :: m, k, d => if p.1 = k then (p.1, p.2 ++ [d]) :: m else p :: moAdd m k d
def moD (m : Mo) : List (Key × D) := m.map fun p => (p.1, D.lst p.2)
abbrev Cell := Key × Addr × List D
def cK (c : List Cell) : List (Key × V) := c.map fun p => (p.1, V.ref p.2.1)
def cM (c : List Cell) : Mo := c.map fun p => (p.1, p.2.2)
theorem cell_split (k : Key) : ∀ c : List Cell, (valV (cK c) k = none ∧ ∀ d, moAdd (cM c) k d = cM c ++ [(k, [d])]) ∨ ∃ c1 p c2, c = c1 ++ p :: c2 ∧ valV (cK c) k = some (V.ref p.2.1) ∧ ∀ d, moAdd (cM c) k d = cM (c1 ++ (p.1, p.2.1, p.2.2 ++ [d]) :: c2)
  | [] => .inl ⟨rfl, fun _ => rfl⟩
  | p :: c => by
    by_cases e : p.1 = k
    · refine .inr ⟨[], p, c, rfl, valV_pos (p := (p.1, V.ref p.2.1)) e, fun d => ?_⟩
      show (if p.1 = k then _ else _) = _
      rw [if_pos e]
      rfl
    · have h1 : ∀ d, moAdd (cM (p :: c)) k d = (p.1, p.2.2) :: moAdd (cM c) k d := fun d => by
        show (if p.1 = k then _ else _) = _
        rw [if_neg e]
        rfl
      have h2 : valV (cK (p :: c)) k = valV (cK c) k := valV_neg (p := (p.1, V.ref p.2.1)) e
      rcases cell_split k c with ⟨h, g⟩ | ⟨c1, q, c2, rfl, h, g⟩
      · exact .inl ⟨h2.trans h, fun d => by rw [h1, g]; rfl⟩
      · exact .inr ⟨p :: c1, q, c2, rfl, h2.trans h, fun d => by rw [h1, g]; rfl⟩
def notOw : Slot → Bool
  | .ow _ => false
  | _ => true
section
variable {X : Cx} {W : WX} {pos : Pos} {K : PySem.W.Frag} {mg : Str → Option Value} {F0 H0 F H F' H' : Hp} {σ : Sg} {env : Env} {i : Nat} {l : Addr} {c : List Cell}
theorem no_ow (h : env.all notOw = true) {j : Nat} {d : D} (e : env[j]? = some (.ow d)) : False := by
  have := List.all_eq_true.mp h _ (List.mem_of_getElem? e)
  cases this
def CellOk (K : PySem.W.Frag) (F H0 H : Hp) (l : Addr) (p : Cell) : Prop := p.2.1 ≠ l ∧ F p.2.1 = none ∧ H0 p.2.1 = none ∧ ∃ xs, H p.2.1 = some (.lst xs) ∧ DRs K F xs p.2.2
structure NRel (K : PySem.W.Frag) (i : Nat) (l : Addr) (c : List Cell) (F0 H0 F H : Hp) (σ : Sg) (env : Env) : Prop where
  sr : SRel K F0 H0 F H σ env
  no : env.all notOw = true
  at_ : σ[i]? = some (some (.ref l))
  fl : F l = none
  nl : H0 l = none
  hl : H l = some (.dK (cK c))
  nd : (c.map (·.2.1)).Nodup
  cs : ∀ p ∈ c, CellOk K F H0 H l p
theorem ext_none (x : Ext F H F' H') {a : Addr} {o : HO} (h : H a = some o) (f : F a = none) : F' a = none := by
  cases q : F' a with
  | none => rfl
  | some z =>
    rcases x.nw _ _ q with y | y
    · rw [h] at y; cases y
    · rw [f] at y; cases y
theorem NRel.ext (n : NRel K i l c F0 H0 F H σ env) (x : Ext F H F' H') : NRel K i l c F0 H0 F' H' σ env :=
  ⟨n.sr.step x, n.no, n.at_, ext_none x n.hl n.fl, n.nl, x.hh _ _ n.hl, n.nd, fun p hp => by
    obtain ⟨h1, h2, h3, xs, h4, h5⟩ := n.cs p hp
    exact ⟨h1, ext_none x h4 h2, h3, xs, x.hh _ _ h4, h5.mono x.ff⟩⟩
/-- an own object that no slot has is changed -/
theorem SRel.poke (r : SRel K F0 H0 F H σ env) (no : env.all notOw = true) {a : Addr} {u : HO} (f : F a = none) (n : H0 a = none) : SRel K F0 H0 F (upd H a u) σ env := by
  have s : Same F (upd H a u) := fun b w q => by rw [upd_ne (ne_of_none q f)]; exact r.rel.sub _ _ q
  refine ⟨⟨s, r.rel.len, r.rel.sh, fun j d q => (no_ow no q).elim, fun j _ d _ _ q => (no_ow no q).elim, r.rel.ex⟩, ⟨fun b w q => ?_, r.ext.ff, s, r.ext.nw⟩, fun j d _ q => (no_ow no q).elim⟩
  rw [upd_ne (ne_of_none q n)]
  exact r.ext.hh _ _ q
theorem NRel.app {c1 c2 : List Cell} {p : Cell} {y : V} {d : D} {xs : List V} (n : NRel K i l (c1 ++ p :: c2) F0 H0 F H σ env) (h : H p.2.1 = some (.lst xs)) (dr : DR K F y d) :
    NRel K i l (c1 ++ (p.1, p.2.1, p.2.2 ++ [d]) :: c2) F0 H0 F (upd H p.2.1 (.lst (xs ++ [y]))) σ env := by
  obtain ⟨h1, h2, h3, xs', h4, h5⟩ := n.cs p (List.mem_append_right _ List.mem_cons_self)
  rw [h] at h4
  cases h4
  have nd := n.nd
  rw [List.map_append, List.map_cons] at nd
  have hne : ∀ q, q ∈ c1 ∨ q ∈ c2 → q.2.1 ≠ p.2.1 := by
    intro q hq e
    rcases hq with hq | hq
    · exact (List.nodup_append.mp nd).2.2 q.2.1 (List.mem_map.mpr ⟨q, hq, rfl⟩) p.2.1 List.mem_cons_self e
    · exact (List.nodup_cons.mp (List.nodup_append.mp nd).2.1).1 (List.mem_map.mpr ⟨q, hq, e⟩)
  refine ⟨n.sr.poke n.no h2 h3, n.no, n.at_, n.fl, n.nl, ?_, ?_, fun q hq => ?_⟩
  · rw [upd_ne (Ne.symm h1), n.hl]
    unfold cK
    rw [List.map_append, List.map_append, List.map_cons, List.map_cons]
  · rw [List.map_append, List.map_cons]; exact nd
  · rcases List.mem_append.mp hq with hq | hq
    · obtain ⟨g1, g2, g3, ys, g4, g5⟩ := n.cs q (List.mem_append_left _ hq)
      exact ⟨g1, g2, g3, ys, by rw [upd_ne (hne q (.inl hq))]; exact g4, g5⟩
    · rcases List.mem_cons.mp hq with rfl | hq
      · exact ⟨h1, h2, h3, _, upd_same, h5.app (.cons dr .nil)⟩
      · obtain ⟨g1, g2, g3, ys, g4, g5⟩ := n.cs q (List.mem_append_right _ (List.mem_cons_of_mem _ hq))
        exact ⟨g1, g2, g3, ys, by rw [upd_ne (hne q (.inr hq))]; exact g4, g5⟩
theorem NRel.new {k : Key} {a : Addr} (n : NRel K i l c F0 H0 F H σ env) (hn : valV (cK c) k = none) (ha : H a = some (.lst [])) (fa : F a = none) (na : H0 a = none) (al : a ≠ l) (ac : ∀ p ∈ c, p.2.1 ≠ a) :
    NRel K i l (c ++ [(k, a, [])]) F0 H0 F (upd H l (.dK (putK (cK c) k (.ref a)))) σ env := by
  refine ⟨n.sr.poke n.no n.fl n.nl, n.no, n.at_, n.fl, n.nl, ?_, ?_, fun q hq => ?_⟩
  · rw [upd_same, putK_new _ hn]
    unfold cK
    rw [List.map_append]
    rfl
  · rw [List.map_append]
    refine List.nodup_append.mpr ⟨n.nd, by simp, fun x hx y hy e => ?_⟩
    obtain ⟨p, hp, rfl⟩ := List.mem_map.mp hx
    simp at hy
    exact ac p hp (e.trans hy)
  · rcases List.mem_append.mp hq with hq | hq
    · obtain ⟨g1, g2, g3, ys, g4, g5⟩ := n.cs q hq
      exact ⟨g1, g2, g3, ys, by rw [upd_ne g1]; exact g4, g5⟩
    · simp at hq
      subst hq
      exact ⟨al, fa, na, [], by rw [upd_ne al]; exact ha, .nil⟩
abbrev Nx := Env → Mo → Option (Env × Mo)
def tN (K : PySem.W.Frag) (i : Nat) (f : Nx) : TS := fun E σ H => ∃ F0 H0 F env l c e' m', NRel K i l c F0 H0 F H σ env ∧ f env (cM c) = some (e', m') ∧ ∀ F' H' σ' l' c', NRel K i l' c' F0 H0 F' H' σ' e' → cM c' = m' → E.nx σ' H'
def NV (X : Cx) (i : Nat) (s : Stmt) (f : Nx) : Prop := PS X s (tN X.K i f)
def NVs (X : Cx) (i : Nat) (s : List Stmt) (f : Nx) : Prop := PSs X s (tN X.K i f)
theorem nvs_one {s : Stmt} {f : Nx} (h : NV X i s f) : NVs X i [s] f := pss_one h
def nApp (fk fv : Sx) : Nx := fun env m => match fk env with
  | .ok r => (match dKey r.d with
    | some k => (match fv env with
      | .ok (.bo _) => none
      | .ok q => if decide (m.length < 16777216) && m.all (fun p => decide (p.2.length < 16777216)) then some (env, moAdd m k q.d) else none
      | _ => none)
    | none => none)
  | _ => none
theorem app_ok {c1 c2 : List Cell} {p : Cell} {fv : Sx} {q : R} {Q : VK} (n : NRel K i l (c1 ++ p :: c2) F0 H0 F H σ env) (e : fv env = .ok q) (kp : q.keeps) (hz : p.2.2.length < 16777216)
    (z : ∀ F' H', NRel K i l (c1 ++ (p.1, p.2.1, p.2.2 ++ [q.d]) :: c2) F0 H0 F' H' σ env → Q .non H') :
    tyV K "list" (.ref p.2.1) H ∧ tCons (tE K mg W fv) tNil σ H fun xs H2 => rAppend (.ref p.2.1) xs H2 Q := by
  obtain ⟨h1, h2, h3, xs, h4, h5⟩ := n.cs p (List.mem_append_right _ List.mem_cons_self)
  refine ⟨.inl ⟨rfl, xs, .of h4⟩, F, env, n.sr.rel, ?_⟩
  rw [e]
  intro F1 H1 u x1 q1
  obtain ⟨F2, x2, sm, dr⟩ := freeze x1 q1 kp
  have n2 := n.ext x2
  obtain ⟨g1, g2, g3, ys, g4, g5⟩ := n2.cs p (List.mem_append_right _ List.mem_cons_self)
  exact ⟨p.2.1, ys, u, rfl, rfl, g4, by rw [sizeLine_eq, g5.len]; exact hz, z F2 _ (n2.app g4 dr)⟩
theorem nv_app {ek ev0 : Expr} {x : Str} {fk fv : Sx} {px sp ap lp cp cp2 : Pos} (hx : PE X (.Name x px) (tVar i)) (hk : EV X W ek fk) (hv : EV X W ev0 fv)
    (m : M2 X (.Name x px) "setdefault" sp ek (.List [] lp) cp)
    (hbase : attributeBase (.Call (.Attribute (.Name x px) "setdefault" sp) [ek, .List [] lp] [] cp) "append" X.env (eval (.Call (.Attribute (.Name x px) "setdefault" sp) [ek, .List [] lp] [] cp) X.env) = eval (.Call (.Attribute (.Name x px) "setdefault" sp) [ek, .List [] lp] [] cp) X.env := by rfl)
    (hfew : ((backTo cp2 (starEach [ev0] X.env)).all (fun x => !x.1) && (backToKw cp2 (keywordEach [] X.env)).all (fun x => x.1.isSome)
      && decide (([ev0] : List Expr).length + ([] : List Keyword).length + (if ([] : List Keyword).isEmpty then 0 else 1) < 30)) = true := by rfl)
    (hline : (ap.endLine == cp2.line) = true := by rfl) (hst : starEach [ev0] X.env = (false, eval ev0 X.env) :: starEach [] X.env := by rfl) (hplain : (backTo cp2 (starEach [] X.env)).any (·.1) = false := by rfl)
    (hs : swapsWith (.Call (.Attribute (.Call (.Attribute (.Name x px) "setdefault" sp) [ek, .List [] lp] [] cp) "append" ap) [ev0] [] cp2) none pos.line X.env = pure false := by rfl) :
    NV X i (.Expr (.Call (.Attribute (.Call (.Attribute (.Name x px) "setdefault" sp) [ek, .List [] lp] [] cp) "append" ap) [ev0] [] cp2) pos) (nApp fk fv) := by
  have hl : EV X W (.List [] lp) (eLst []) := ev_lst av_nil
  refine (ps_expr (pe_bm PySem.F.plainAttrs_list PySem.F.slot_list_append PySem.F.type_list_append mt_append (pe_dsetd hx hk hl m) (pa_cons hv pa_nil hst) hbase hfew hline hst hplain) hs).imp fun E σ H z => ?_
  obtain ⟨F0, H0, F, env, l, c, e', m', n, ef, z⟩ := z
  unfold nApp at ef
  cases e1 : fk env with
  | ex _ => simp only [e1] at ef; cases ef
  | st => simp only [e1] at ef; cases ef
  | ok r =>
    simp only [e1] at ef
    cases e2 : dKey r.d with
    | none => simp only [e2] at ef; cases ef
    | some k =>
      simp only [e2] at ef
      have main : ∀ q : R, q.keeps → fv env = .ok q → (if decide ((cM c).length < 16777216) && (cM c).all (fun p => decide (p.2.length < 16777216)) then some (env, moAdd (cM c) k q.d) else none) = some (e', m') →
          tBM X.K "list" rAppend (tDSetd (tVar i) (tE X.K X.mg W fk) (tE X.K X.mg W (eLst []))) (tCons (tE X.K X.mg W fv) tNil) σ H fun _ H' => E.nx σ H' := by
        intro q kp e3 ef
        split at ef
        · rename_i cnd
          rw [Bool.and_eq_true, decide_eq_true_eq] at cnd
          obtain ⟨c1, c2⟩ := cnd
          cases ef
          refine ⟨.ref l, n.at_, l, rfl, .inl ⟨_, .of n.hl⟩, F, env, n.sr.rel, ?_⟩
          rw [e1]
          intro F1 H1 y x1 q1
          have n1 := n.ext x1
          refine ⟨F1, env, n1.sr.rel, ?_⟩
          intro F2 H2 z2 x2 q2
          have n2 := n1.ext x2
          have ek := dKey_v (x2.dv q1.dv) e2
          refine ⟨cK c, k, n2.hl, ek, by rw [sizeLine_eq]; unfold cK; unfold cM at c1; rw [List.length_map] at c1 ⊢; exact c1, fun v hv => ?_, fun hn => ?_⟩
          · rcases cell_split k c with ⟨h, g⟩ | ⟨d1, p, d2, rfl, h, g⟩
            · rw [h] at hv; cases hv
            · rw [h] at hv
              cases hv
              have hz := List.all_eq_true.mp c2 (p.1, p.2.2) (List.mem_map.mpr ⟨p, List.mem_append_right _ List.mem_cons_self, rfl⟩)
              exact app_ok n2 e3 kp (of_decide_eq_true hz) fun F' H' n' => z F' H' σ l _ n' (g q.d).symm
          · rcases cell_split k c with ⟨h, g⟩ | ⟨d1, p, d2, rfl, h, g⟩
            · obtain ⟨a, rfl, na, fa, xs, ha, rs⟩ := q2
              cases rs
              have al : a ≠ l := fun w => by subst w; rw [n1.hl] at na; cases na
              have ac : ∀ p ∈ c, p.2.1 ≠ a := fun p hp w => by
                obtain ⟨_, _, _, ys, h4, _⟩ := n1.cs p hp
                rw [w, na] at h4
                cases h4
              have n3 := n2.new (k := k) hn ha fa (n1.sr.ext.hh.free na) al ac
              refine app_ok (p := (k, a, [])) (c2 := []) n3 e3 kp (show (0 : Nat) < 16777216 by decide) fun F' H' n' => z F' H' σ l _ n' ?_
              rw [g]
              unfold cM
              rw [List.map_append]
              rfl
            · rw [h] at hn; cases hn
        · cases ef
      cases e3 : fv env with
      | ex _ => simp only [e3] at ef; cases ef
      | st => simp only [e3] at ef; cases ef
      | ok q =>
        cases q <;> simp only [e3] at ef
        · exact main (.cl _) trivial e3 ef
        · exact main (.ow _) trivial e3 ef
        · cases ef
def nLoop (j : Nat) (b : Nx) : List D → Nx
  | [], env, m => some (env, m)
  | d :: ds, env, m => match b (env.set j (.sh d)) m with
    | some (e, m') => nLoop j b ds e m'
    | none => none
def nFor (src : Ix) (j : Nat) (b : Nx) : Nx := fun env m => match src env with
  | .ok (true, ds) => nLoop j b ds env m
  | _ => none
theorem all_set {env : Env} {j : Nat} {d : D} (h : env.all notOw = true) : (env.set j (.sh d)).all notOw = true := by
  refine List.all_eq_true.mpr fun s hs => ?_
  rcases List.mem_or_eq_of_mem_set hs with q | q
  · exact List.all_eq_true.mp h s q
  · subst q; rfl
theorem NRel.base (n : NRel K i l c F0 H0 F H σ env) : NRel K i l c F H0 F H σ env := ⟨n.sr.base, n.no, n.at_, n.fl, n.nl, n.hl, n.nd, n.cs⟩
theorem NRel.unbase {σ' : Sg} {env' : Env} (a : Ext F0 H0 F H) (n : NRel K i l c F H0 F' H' σ' env') : NRel K i l c F0 H0 F' H' σ' env' := ⟨n.sr.unbase a, n.no, n.at_, n.fl, n.nl, n.hl, n.nd, n.cs⟩
theorem nv_for {tg iter : Expr} {body : List Stmt} {src : Ix} {j : Nat} {b : Nx} (hp : PassesOwn (model X.prog X.w) X.A X.env X.xe) (hc : X.calm = true) (hi : IV X W tg iter src) (hg : GV X tg (.one j)) (hb : NVs X i body b) (hij : i ≠ j := by decide)
    (hs : ∀ x, foldedSetIterable iter X.env x = pure x := by intro _; rfl) : NV X i (.For tg iter body [] pos) (nFor src j b) := (ps_for hp hc hi hg hb hs).imp fun E σ H z => by
  obtain ⟨F0, H0, F, env, l, c, e', m', n, ef, z⟩ := z
  refine ⟨F, env, n.sr.rel, ?_⟩
  unfold nFor at ef
  cases e : src env with
  | ok bd =>
    obtain ⟨k, ds⟩ := bd
    cases k with
    | false => simp only [e] at ef; cases ef
    | true =>
      simp only [e] at ef
      intro F1 H1 G J x sg hG it
      have hG := hG rfl
      subst hG
      have sf0 : ∀ {F2 H2 : Hp} {σ2 : Sg} {e2 : Env}, SRel X.K F0 H0 F2 H2 σ2 e2 → Same G F2 → Same G H2 := fun r s => s.trans r.rel.sub
      refine ⟨fun q m σ' H' => ∃ F' env' l' c', NRel X.K i l' c' F0 H0 F' H' σ' env' ∧ Same G F' ∧ m = ds.length - q ∧ q ≤ ds.length ∧ nLoop j b (ds.drop q) env' (cM c') = some (e', m'), ⟨ds.length, G, env, l, c, n.ext x, .refl _, rfl, Nat.zero_le _, ef⟩, ?_⟩
      rintro q m σ2 H2 ⟨F2, env2, l2, c2, n2, s2, rfl, hi, z2⟩
      by_cases hlt : q < ds.length
      · refine .inr ⟨it.go q H2 (sf0 n2.sr s2) hlt, fun σ' H' => ∃ F' env' l' c', NRel X.K i l' c' F0 H0 F' H' σ' env' ∧ Same G F' ∧ nLoop j b (ds.drop (q + 1)) env' (cM c') = some (e', m'), fun σ' H' ⟨F', env', l', c', a, s, d⟩ => ⟨ds.length - (q + 1), by omega, F', env', l', c', a, s, rfl, hlt, d⟩, fun v H3 y => ?_⟩
        obtain ⟨F3, x3, dr⟩ := it.yld q F2 H2 v H3 (sf0 n2.sr s2) s2 n2.sr.rel.sub y _ (List.getElem?_eq_getElem hlt)
        rw [List.drop_eq_getElem_cons hlt] at z2
        unfold nLoop at z2
        cases e4 : b (env2.set j (.sh ds[q])) (cM c2) with
        | none => simp only [e4] at z2; cases z2
        | some w =>
          obtain ⟨e5, m5⟩ := w
          simp only [e4] at z2
          have n3 := n2.ext x3
          refine ⟨F0, H0, F3, env2, ds[q], _, n3.sr, dr, rfl, fun σ3 r3 oa => ?_⟩
          have n4 : NRel X.K i l2 c2 F0 H0 F3 H3 σ3 (env2.set j (.sh ds[q])) :=
            ⟨r3, all_set n3.no, by rw [oa.2 i (fun h => hij (List.mem_singleton.mp h))]; exact n3.at_, n3.fl, n3.nl, n3.hl, n3.nd, n3.cs⟩
          have s3 : Same G F3 := s2.trans x3.ff
          exact ⟨F3, H0, F3, _, l2, c2, e5, m5, n4.base, e4, fun F4 H4 σ4 l4 c4 n5 ec => ⟨F4, e5, l4, c4, n5.unbase r3.ext, s3.trans n5.sr.ext.ff, by rw [ec]; exact z2⟩⟩
      · have ei : q = ds.length := by omega
        subst ei
        rw [List.drop_length] at z2
        unfold nLoop at z2
        cases z2
        exact .inl ⟨it.stop _ H2 (sf0 n2.sr s2) (Nat.le_refl _), z F2 H2 σ2 l2 c2 n2 rfl⟩
  | ex c => simp only [e] at ef; cases ef
  | st => simp only [e] at ef; cases ef
def sNest (i : Nat) (f : Nx) : Stx := fun env => match env[i]? with
  | some (.ow (.dct [])) => if (env.set i .un).all notOw then (match f (env.set i .un) [] with
    | some (e, m) => .nx (e.set i (.ow (.dct (moD m))))
    | none => .st) else .st
  | _ => .st
/-- all cells frozen -/
theorem NRel.done (n : NRel K i l c F0 H0 F H σ env) : ∃ F', SRel K F0 H0 F' H σ (env.set i (.ow (.dct (moD (cM c))))) := by
  classical
  let G : Hp := fun a => if a ∈ c.map (·.2.1) then H a else F a
  have gin : ∀ p ∈ c, G p.2.1 = H p.2.1 := fun p hp => if_pos (List.mem_map.mpr ⟨p, hp, rfl⟩)
  have gout : ∀ a, a ∉ c.map (·.2.1) → G a = F a := fun a h => if_neg h
  have sm : Same F G := fun b o q => by
    have : b ∉ c.map (·.2.1) := fun h => by
      obtain ⟨p, hp, rfl⟩ := List.mem_map.mp h
      obtain ⟨_, h2, _⟩ := n.cs p hp
      rw [h2] at q
      cases q
    rw [gout b this]
    exact q
  have gh : Same G H := fun b o q => by
    by_cases h : b ∈ c.map (·.2.1)
    · obtain ⟨p, hp, rfl⟩ := List.mem_map.mp h
      rw [gin p hp] at q
      exact q
    · rw [gout b h] at q
      exact n.sr.rel.sub _ _ q
  have ln : l ∉ c.map (·.2.1) := fun h => by
    obtain ⟨p, hp, e⟩ := List.mem_map.mp h
    exact (n.cs p hp).1 e
  have dk : ∀ cc : List Cell, (∀ p ∈ cc, p ∈ c) → DRk K G (cK cc) (moD (cM cc)) := by
    intro cc
    induction cc with
    | nil => intro _; exact .nil
    | cons p cc ih =>
      intro hh
      obtain ⟨h1, h2, h3, xs, h4, h5⟩ := n.cs p (hh p List.mem_cons_self)
      exact .cons (.lst ((gin p (hh p List.mem_cons_self)).trans h4) (h5.mono sm)) (ih fun q hq => hh q (List.mem_cons_of_mem _ hq))
  have hi : i < env.length := by
    rw [← n.sr.rel.len]
    exact (List.getElem?_eq_some_iff.mp n.at_).1
  have here : ∀ {t : Slot}, (env.set i (.ow (.dct (moD (cM c)))))[i]? = some t → t = .ow (.dct (moD (cM c))) := fun {t} q => by
    rw [List.getElem?_set_self hi] at q
    exact (Option.some.inj q).symm
  have only : ∀ {j : Nat} {d : D}, (env.set i (.ow (.dct (moD (cM c)))))[j]? = some (.ow d) → i = j := fun {j d} q => by
    by_cases hj : i = j
    · exact hj
    · rw [List.getElem?_set_ne hj] at q
      exact (no_ow n.no q).elim
  refine ⟨G, ⟨gh, by rw [List.length_set]; exact n.sr.rel.len, fun j d q => ?_, fun j d q => ?_, fun j k d e a q1 q2 _ _ => (only q1).symm.trans (only q2), fun j a q => ?_⟩, ⟨n.sr.ext.hh, n.sr.ext.ff.trans sm, gh, fun a o q => ?_⟩, fun j d a q1 q2 => ?_⟩
  · by_cases hj : i = j
    · subst hj; cases here q
    · rw [List.getElem?_set_ne hj] at q
      obtain ⟨v, h1, h2⟩ := n.sr.rel.sh j d q
      exact ⟨v, h1, h2.mono sm⟩
  · have hj := only q
    subst hj
    cases here q
    exact ⟨l, n.at_, (gout l ln).trans n.fl, _, n.hl, dk c fun _ h => h⟩
  · by_cases hj : i = j
    · subst hj; cases here q
    · rw [List.getElem?_set_ne hj] at q
      exact n.sr.rel.ex j a q
  · by_cases h : a ∈ c.map (·.2.1)
    · obtain ⟨p, hp, rfl⟩ := List.mem_map.mp h
      exact .inl (n.cs p hp).2.2.1
    · rw [gout a h] at q
      exact n.sr.ext.nw _ _ q
  · have hj := only q1
    subst hj
    rw [n.at_] at q2
    cases q2
    exact n.nl
theorem sv_nest (i : Nat) {s : Stmt} {f : Nx} (h : NV X i s f) : SV X W s (sNest i f) := h.imp fun E σ H z => by
  obtain ⟨F0, H0, F, env, rl, z⟩ := z
  unfold sNest at z
  cases e : env[i]? with
  | none => simp only [e] at z; exact z.elim
  | some s =>
    cases s with
    | un => simp only [e] at z; exact z.elim
    | exc _ => simp only [e] at z; exact z.elim
    | sh d => simp only [e] at z; exact z.elim
    | ow d =>
      obtain ⟨l, el, fl, o⟩ := rl.rel.ow i d e
      have nl := rl.own i d l e el
      cases d <;> first | exact (False.elim o) | (simp only [e] at z; exact z.elim) | skip
      rename_i kvs
      cases kvs with
      | cons _ _ => simp only [e] at z; exact z.elim
      | nil =>
        simp only [e] at z
        split at z
        · rename_i no
          obtain ⟨ks, hl, dr⟩ := o
          cases dr
          cases ef : f (env.set i .un) [] with
          | none => rw [ef] at z; exact z.elim
          | some w =>
            obtain ⟨e', m'⟩ := w
            rw [ef] at z
            have hi : i < env.length := (List.getElem?_eq_some_iff.mp e).1
            have un : ∀ {j : Nat} {t : Slot}, (env.set i .un)[j]? = some t → t ≠ .un → env[j]? = some t := fun {j t} q ne => by
              by_cases hj : i = j
              · subst hj
                rw [List.getElem?_set_self hi] at q
                exact absurd (Option.some.inj q).symm ne
              · rw [List.getElem?_set_ne hj] at q
                exact q
            have sr : SRel X.K F0 H0 F H σ (env.set i .un) :=
              ⟨⟨rl.rel.sub, by rw [List.length_set]; exact rl.rel.len, fun j d q => rl.rel.sh j d (un q (fun z => by cases z)), fun j d q => (no_ow no q).elim, fun j _ d _ _ q => (no_ow no q).elim, fun j a q => rl.rel.ex j a (un q (fun z => by cases z))⟩, rl.ext, fun j d _ q => (no_ow no q).elim⟩
            refine ⟨F0, H0, F, _, l, [], e', m', ⟨sr, no, el, fl, nl, hl, List.nodup_nil, fun p hp => (by cases hp)⟩, ef, fun F' H' σ' l' c' n' ec => ?_⟩
            subst ec
            obtain ⟨F2, r2⟩ := n'.done
            exact z F2 H' σ' r2
        · exact z.elim
end

/-! ### xs[::c] of a tuple -/
section
variable {X : Cx} {W : WX} {pos : Pos} {K : PySem.W.Frag} {F H : Hp} {Q : VK}
def stepL {α : Type} (c : Int) (xs : List α) : List α := (List.range (Builtin.Slice.slicePlaces 0 (xs.length : Int) c)).filterMap fun (m : Nat) => xs[((0 : Int) + (m : Int) * c).toNat]?
theorem step_adjust (c : Int) (hc : 2 ≤ c) (n : Nat) : Builtin.Slice.sliceAdjust none none c (n : Int) = (0, (n : Int)) := by
  unfold Builtin.Slice.sliceAdjust
  have h1 : ¬ (c < 0) := by omega
  simp only [h1, if_false]
theorem step_len {α : Type} (c : Int) (hc : 2 ≤ c) (xs : List α) : (stepL c xs).length ≤ xs.length := by
  refine Nat.le_trans (List.length_filterMap_le _ _) ?_
  rw [List.length_range]
  unfold Builtin.Slice.slicePlaces
  have h1 : c > 0 := by omega
  simp only [h1, if_true]
  split
  · have := Int.ediv_le_self c (show (0 : Int) ≤ (xs.length : Int) - 0 - 1 by omega)
    omega
  · exact Nat.zero_le _
theorem step_vals {xs : List V} {its : List Value} (r : Vals xs its) (c : Int) : Vals (stepL c xs) (stepL c its) := by
  unfold stepL
  rw [r.length]
  generalize List.range _ = l
  induction l with
  | nil => exact .nil
  | cons m l ih =>
    rw [List.filterMap_cons, List.filterMap_cons]
    cases e : xs[((0 : Int) + (m : Int) * c).toNat]? with
    | none =>
      have h := List.getElem?_eq_none_iff.mp e
      rw [Vals.none_of r e]
      exact ih
    | some x =>
      obtain ⟨u, h1, h2⟩ := Vals.get r e
      rw [h1]
      exact .cons h2 ih
theorem getItem_tuple_step {prog : Program} {w : World} {A : Around} {E : Value → Shared → Prop} {s : Shared} {t sl : Addr} {items : Array Value} {vl vu vs : Value} {Q : Value → Shared → Prop} (c : Int) (hc : 2 ≤ c) (ht : IsTup s.heap t items) (hs : s.heap.IsSliceOf sl vl vu vs) (pl : IsPart vl none) (pu : IsPart vu none) (ps : IsPart vs (some c))
    (h : Q (.ref s.heap.objs.size) { s with heap := s.heap.push { cls := .type "tuple", data := .seq (stepL c items.toList).toArray } })
    (hsz : items.size ≤ sizeLine) : wpAny (model prog w) A (getItem (.ref t) (.ref sl)) Q E s := by
  have htake : sizeOk (.seq (stepL c items.toList).toArray) := by
    show (stepL c items.toList).toArray.size ≤ sizeLine
    have h0 := step_len c hc items.toList
    have h1 : (stepL c items.toList).toArray.size = (stepL c items.toList).length := List.size_toArray
    have h2 : items.toList.length = items.size := Array.length_toList
    omega
  obtain ⟨os, hos, hcs, hds⟩ := id hs
  have hTs : s.TypeIs (.ref sl) "slice" := ⟨os, hos, hcs⟩
  unfold getItem
  try with_reducible refine wpAny_holding ?_
  first | refine wpAny_bind (wpAny_pure ?_) | skip
  refine wpAny_bind (wpAny_sequenceKey ht.typeIs (by decide) ?_)
  refine wpAny_bind (wpAny_callSpecial?_slot (name := Str.ofString "__getitem__") ht.typeIs PyProof.Rows.slot_tuple_getitem
    (wpAny_call_entry PyProof.Rows.slot_tuple_getitem ht.typeIs entry_tuple_getitem ?_ (args_tuple_getitem _ _)))
  show wpAny _ _ (Builtin.Tuple.tupleItemsOf (.ref t) >>= _) _ _ s
  refine wpAny_bind (tupleItemsOf_ ht ?_)
  refine wpAny_bind (wpAny_typeOf hTs ?_)
  rw [if_pos (by decide)]
  refine wpAny_bind (m := Builtin.Slice.sliceApplied (.ref sl) (pure (items.size : Int))) ?_
  · unfold Builtin.Slice.sliceApplied Builtin.Slice.sliceFields
    refine wpAny_bind (wpAny_bind (wpAny_field hos hds (x := vl) rfl (wpAny_bind (wpAny_field hos hds (x := vu) rfl (wpAny_bind (wpAny_field hos hds (x := vs) rfl (wpAny_pure ?_)))))))
    refine wpAny_bind (HT.slicePart_ ps ?_)
    show wpAny _ _ (if (c == 0) = true then _ else _) _ _ s
    rw [if_neg (by simp; omega)]
    refine wpAny_bind (HT.slicePart_ pl (wpAny_bind (HT.slicePart_ pu (wpAny_bind (wpAny_pure ?_)))))
    show wpAny _ _ (match Builtin.Slice.sliceAdjust none none c (items.size : Int) with | (lo, hi) => pure (lo, c, Builtin.Slice.slicePlaces lo hi c)) _ _ s
    rw [step_adjust c hc]
    refine wpAny_pure ?_
    have hno : ¬ (((0 : Int) == 0 && c == 1 && Builtin.Slice.slicePlaces 0 (items.size : Int) c == items.size) = true) := by
      intro q
      rw [Bool.and_eq_true, Bool.and_eq_true] at q
      have := eq_of_beq q.1.2
      omega
    show wpAny _ _ (if ((0 : Int) == 0 && c == 1 && Builtin.Slice.slicePlaces 0 (items.size : Int) c == items.size) = true then _ else _) _ _ s
    rw [if_neg hno]
    have e : (List.range (Builtin.Slice.slicePlaces 0 (items.size : Int) c)).filterMap (fun (m : Nat) => items[((0 : Int) + (m : Int) * c).toNat]?) = stepL c items.toList := by
      unfold stepL
      rw [Array.length_toList]
      simp only [Array.getElem?_toList]
    rw [e]
    first
      | exact wpAny_bind (m := Builtin.Tuple.tupleExact _) (wpAny_newObj_type (wpAny_pure ⟨_, rfl, wpAny_pure h⟩) htake)
      | exact wpAny_bind (m := Builtin.Tuple.tupleExact _) (wpAny_newObj_type (wpAny_bind (wpAny_pure (wpAny_pure ⟨_, rfl, wpAny_pure h⟩))) htake)
      | exact wpAny_bind (wpAny_bind (m := Builtin.Tuple.tupleExact _) (wpAny_newObj_type (wpAny_pure (wpAny_pure ⟨_, rfl, wpAny_pure h⟩)) htake))
      | exact wpAny_bind (wpAny_bind (m := Builtin.Tuple.tupleExact _) (wpAny_newObj_type (wpAny_pure ⟨_, rfl, wpAny_pure h⟩) htake))
def rStep (K : PySem.W.Frag) (c : Int) : V → Hp → VK → Prop := fun x H Q => ∃ a xs, x = .ref a ∧ SqT K H a xs ∧ NewT H Q (stepL c xs)
theorem sl_step {x : V} {v vl vu vs : Value} {sl : Addr} {pins : List (Addr × Obj)} {s : Shared} {σ : Sg} {c : Int} (hc : 2 ≤ c) (I : L2.Inv X pins σ H s) (rx : RelV x v) (hs : s.heap.IsSliceOf sl vl vu vs) (pl : IsPart vl none) (pu : IsPart vu none) (ps : IsPart vs (some c))
    (h : rStep X.K c x H Q) :
    ∃ T id, typeLookup (.type T) "__getitem__" = pure (some (.builtin id)) ∧ s.TypeIs v T ∧ wpAny (model X.prog X.w) X.A (getItem v (.ref sl)) (EP X pins σ Q) X.xe s := by
  obtain ⟨a, xs, rfl, hx, q⟩ := h
  cases rx
  obtain ⟨its, r, ht, hz⟩ := I.tuple hx
  have hlen := r.length
  refine ⟨"tuple", _, PyProof.Rows.slot_tuple_getitem.lookup, ht.typeIs, ?_⟩
  refine getItem_tuple_step c hc ht hs pl pu ps ?_ (by rw [List.size_toArray]; omega)
  refine ⟨.ref _, _, I.laid (t' := s.toks) (o := .frz { cls := .type "tuple", data := .seq (stepL c its.toArray.toList).toArray } (.tup (stepL c xs))) (fun b ob q => Heap.get?_push_of_some _ q) (Nat.le_refl _) ?_, rfl, q _ _ rfl (I.hok.fresh (Nat.le_refl _))⟩
  exact ⟨Heap.get?_push_size _ rfl, Nat.le_trans (step_len c hc xs) hz, _, step_vals r c, IsTup.new _ _⟩
theorem pe_step {e : Expr} {te : TE} {k : Nat} {p1 p3 pos : Pos} {c : Int} (hc : 2 ≤ c) (he : PE X e te) : PE X (.Subscript e (.Slice none none (some (.Constant (.int c) k p1)) p3) pos) (fun σ H Q => te σ H fun x H1 => rStep X.K c x H1 Q) := by
  refine ⟨fun pins s σ H Q I h => ?_⟩
  refine Subscript_ (thn (he.run pins s σ H _ I h) fun v s1 ⟨x, H1, I1, r1, q⟩ => ?_)
  have hst : PO X (some (.Constant (.int c) k p1)) (tPart (tC (.int c))) := po_some pe_int
  refine wpAny_Slice (thn (po_none.run pins s1 σ H1 (fun o H2 => o = none ∧ H2 = H1) I1 ⟨rfl, rfl⟩) fun vl s2 ⟨l, H2, I2, pl, el, e2⟩ => ?_)
  subst el e2
  refine thn (po_none.run pins s2 σ H2 (fun o H3 => o = none ∧ H3 = H2) I2 ⟨rfl, rfl⟩) fun vu s3 ⟨u, H3, I3, pu, eu, e3⟩ => ?_
  subst eu e3
  refine thn (hst.run pins s3 σ H3 (fun o H4 => o = some c ∧ H4 = H3) I3 ⟨c, rfl, rfl, rfl⟩) fun vs s4 ⟨o, H4, I4, ps, eo, e4⟩ => ?_
  subst eo e4
  have I5 : L2.Inv X pins σ H4 { s4 with heap := s4.heap.push { cls := .type "slice", data := .fields #[vl, vu, vs] } } := I4.kept (t' := s4.toks) fun b ob q => Heap.get?_push_of_some _ q
  obtain ⟨T, id, hT, ht, hg⟩ := sl_step (Q := Q) (sl := s4.heap.objs.size) hc I5 r1 (Heap.IsSliceOf.new _ vl vu vs) pl pu ps q
  show wpAny (model X.prog X.w) X.A (subscriptTail e (.Slice none none (some (.Constant (.int c) k p1)) p3) v (.ref s4.heap.objs.size)) (EP X pins σ Q) X.xe { s4 with heap := s4.heap.push { cls := .type "slice", data := .fields #[vl, vu, vs] } }
  exact tail_any (ops := [v, .ref s4.heap.objs.size]) ht hT hg (by with_unfolding_all rfl)
theorem DRs.step {xs : List V} {ds : List D} (r : DRs K F xs ds) (c : Int) : DRs K F (stepL c xs) (stepL c ds) := by
  unfold stepL
  rw [r.len]
  generalize List.range _ = l
  induction l with
  | nil => exact .nil
  | cons m l ih =>
    rw [List.filterMap_cons, List.filterMap_cons]
    cases e : ds[((0 : Int) + (m : Int) * c).toNat]? with
    | none =>
      have h := List.getElem?_eq_none_iff.mp e
      rw [List.getElem?_eq_none (by rw [r.len]; exact h)]
      exact ih
    | some x =>
      obtain ⟨u, h1, h2⟩ := r.get e
      rw [h1]
      exact .cons h2 ih
def dStep (c : Int) : D → Out R
  | .tup l => cD (.tup (stepL c l))
  | _ => .st
theorem n_step (c : Int) : ∀ a, noEx (dStep c a) := by
  intro a; unfold dStep cD; repeat' (first | trivial | split)
theorem o1_step (c : Int) : Op1 K (rStep K c) (dStep c) := by
  intro F H x a Q s hx h
  cases a <;> first | exact (False.elim h) | skip
  obtain ⟨l, xs, rfl, q1, r1⟩ := hx.tup s
  exact ⟨_, _, rfl, q1, okV_new s h (r1.step c)⟩
theorem ev_step {e : Expr} {f : Sx} {k : Nat} {p1 p3 : Pos} {c : Int} (hc : 2 ≤ c) (he : EV X W e f) : EV X W (.Subscript e (.Slice none none (some (.Constant (.int c) k p1)) p3) pos) (e1 (dStep c) f) := (pe_step hc he).imp fun _ _ _ h => t1_of (o1_step c) (n_step c) h
end
end Fs

/-! ### for over an own list that stays own -/
namespace Fs
open PySem PySem.Spec PyProof.Rows L2
section
variable {X : Cx} {W : WX} {pos : Pos} {K : PySem.W.Frag} {mg : Str → Option Value} {F0 H0 F H F' H' : Hp} {σ : Sg} {env : Env} {i : Nat} {l : Addr} {xs : List V} {ds : List D}
def unlock (i : Nat) (a : Addr) (ds : List D) : SO → SO
  | .nx e => if isExc a e[i]? = true then .nx (e.set i (.ow (.lst ds))) else .st
  | .rt r => .rt r
  | .ex c e => if isExc a e[i]? = true then .ex c (e.set i (.ow (.lst ds))) else .st
  | _ => .st
noncomputable def sForO (i : Nat) (t : Tgt) (b : Stx) : Stx := fun env => match env[i]? with
  | some (.ow (.lst ds)) => if ds.length ≤ 16777216 then sameS fun a => unlock i a ds (loopF t b ds (env.set i (.exc a))) else .st
  | _ => .st
theorem same_in (n : H0 l = none) {o : HO} : Same H0 (upd H0 l o) := fun b w q => by rw [upd_ne (ne_of_none q n)]; exact q
theorem ext_out (n : H0 l = none) {o : HO} (x : Ext F0 (upd H0 l o) F H) : Ext F0 H0 F H := ⟨(same_in n).trans x.hh, x.ff, x.fh, fun a w q => (x.nw a w q).elim (fun z => .inl ((same_in n).free z)) .inr⟩
theorem SRel.lock (r : SRel K F0 H0 F H σ env) (e : env[i]? = some (.ow (.lst ds))) (el : σ[i]? = some (some (.ref l))) (hl : H l = some (.lst xs)) : SRel K F0 (upd H0 l (.lst xs)) F H σ (env.set i (.exc l)) := by
  have hi : i < env.length := (List.getElem?_eq_some_iff.mp e).1
  have n0 := r.own i _ l e el
  obtain ⟨l', el', fl, _⟩ := r.rel.ow i _ e
  rw [el] at el'
  cases el'
  have key : ∀ {j : Nat} {t : Slot}, (env.set i (.exc l))[j]? = some t → (j = i ∧ t = .exc l) ∨ (j ≠ i ∧ env[j]? = some t) := fun {j t} q => by
    by_cases hj : j = i
    · subst hj
      rw [List.getElem?_set_self hi] at q
      cases q
      exact .inl ⟨rfl, rfl⟩
    · rw [List.getElem?_set_ne (Ne.symm hj)] at q
      exact .inr ⟨hj, q⟩
  have ow : ∀ {j : Nat} {d : D}, (env.set i (.exc l))[j]? = some (.ow d) → j ≠ i ∧ env[j]? = some (.ow d) := fun {j d} q => by
    rcases key q with ⟨_, z⟩ | z
    · cases z
    · exact z
  refine ⟨⟨r.rel.sub, by rw [List.length_set]; exact r.rel.len, fun j d q => ?_, fun j d q => r.rel.ow j d (ow q).2, fun j k d d2 a q1 q2 => r.rel.sep j k d d2 a (ow q1).2 (ow q2).2, fun j a q => ?_⟩, ⟨fun b w q => ?_, r.ext.ff, r.ext.fh, fun a w q => ?_⟩, fun j d a q1 q2 => ?_⟩
  · rcases key q with ⟨_, z⟩ | ⟨_, z⟩
    · cases z
    · exact r.rel.sh j d z
  · rcases key q with ⟨z1, z⟩ | ⟨_, z⟩
    · cases z; subst z1; exact el
    · exact r.rel.ex j a z
  · by_cases hb : b = l
    · subst hb; rw [upd_same] at q; rw [hl]; exact q
    · rw [upd_ne hb] at q; exact r.ext.hh _ _ q
  · have hb : a ≠ l := fun z => by subst z; rw [fl] at q; cases q
    rw [upd_ne hb]
    exact r.ext.nw a w q
  · obtain ⟨h1, h2⟩ := ow q1
    have hb : a ≠ l := fun z => h1 (r.rel.sep j i d _ a h2 e q2 (by rw [z]; exact el))
    rw [upd_ne hb]
    exact r.own j d a h2 q2
theorem SRel.unlock (r : SRel K F0 (upd H0 l (.lst xs)) F H σ env) (n0 : H0 l = none) (f0 : F0 l = none) (e : env[i]? = some (.exc l)) (rs : DRs K F xs ds) : SRel K F0 H0 F H σ (env.set i (.ow (.lst ds))) := by
  have hi : i < env.length := (List.getElem?_eq_some_iff.mp e).1
  have el := r.rel.ex i l e
  have hl : H l = some (.lst xs) := r.ext.hh _ _ upd_same
  have fl : F l = none := by
    cases q : F l with
    | none => rfl
    | some z =>
      rcases r.ext.nw _ _ q with y | y
      · rw [upd_same] at y; cases y
      · rw [f0] at y; cases y
  have key : ∀ {j : Nat} {t : Slot}, (env.set i (.ow (.lst ds)))[j]? = some t → (j = i ∧ t = .ow (.lst ds)) ∨ (j ≠ i ∧ env[j]? = some t) := fun {j t} q => by
    by_cases hj : j = i
    · subst hj
      rw [List.getElem?_set_self hi] at q
      cases q
      exact .inl ⟨rfl, rfl⟩
    · rw [List.getElem?_set_ne (Ne.symm hj)] at q
      exact .inr ⟨hj, q⟩
  have apart : ∀ {j : Nat} {d : D}, env[j]? = some (.ow d) → σ[j]? = some (some (.ref l)) → False := fun {j d} q1 q2 => by
    have := r.own j d l q1 q2
    rw [upd_same] at this
    cases this
  refine ⟨⟨r.rel.sub, by rw [List.length_set]; exact r.rel.len, fun j d q => ?_, fun j d q => ?_, fun j k d d2 a q1 q2 q3 q4 => ?_, fun j a q => ?_⟩, ext_out n0 r.ext, fun j d a q1 q2 => ?_⟩
  · rcases key q with ⟨_, z⟩ | ⟨_, z⟩
    · cases z
    · exact r.rel.sh j d z
  · rcases key q with ⟨z1, z⟩ | ⟨_, z⟩
    · cases z
      subst z1
      exact ⟨l, el, fl, xs, hl, rs⟩
    · exact r.rel.ow j d z
  · rcases key q1 with ⟨z1, z⟩ | ⟨_, z⟩
    · subst z1
      rw [el] at q3
      cases q3
      rcases key q2 with ⟨z2, _⟩ | ⟨_, z2⟩
      · exact z2.symm
      · exact (apart z2 q4).elim
    · rcases key q2 with ⟨z1, z2⟩ | ⟨_, z2⟩
      · subst z1
        rw [el] at q4
        cases q4
        exact (apart z q3).elim
      · exact r.rel.sep j k d d2 a z z2 q3 q4
  · rcases key q with ⟨_, z⟩ | ⟨_, z⟩
    · cases z
    · exact r.rel.ex j a z
  · rcases key q1 with ⟨z1, _⟩ | ⟨_, z⟩
    · subst z1
      rw [el] at q2
      cases q2
      exact n0
    · exact (same_in n0).free (r.own j d a z q2)
theorem sv_forO (i : Nat) {tg it0 : Expr} {body : List Stmt} {t : Tgt} {b : Stx} (hp : PassesOwn (model X.prog X.w) X.A X.env X.xe) (hc : X.calm = true) (hi : PE X it0 (tVar i)) (hg : GV X tg t) (hb : SVs X W body b)
    (hs : ∀ x, foldedSetIterable it0 X.env x = pure x := by intro _; rfl) : SV X W (.For tg it0 body [] pos) (sForO i t b) := (ps_for hp hc (pi_seq hi) hg hb hs).imp fun E σ H z => by
  obtain ⟨F0, H0, F, env, rl, z⟩ := z
  unfold sForO at z
  cases e : env[i]? with
  | none => simp only [e] at z; exact z.elim
  | some s =>
    cases s with
    | un => simp only [e] at z; exact z.elim
    | exc _ => simp only [e] at z; exact z.elim
    | sh d => simp only [e] at z; exact z.elim
    | ow d =>
      cases d <;> first | (simp only [e] at z; exact z.elim; done) | skip
      rename_i ds
      simp only [e] at z
      split at z
      rotate_left
      · exact z.elim
      rename_i hlen
      obtain ⟨l, el, fl, xs, hl, rs⟩ := rl.rel.ow i _ e
      have n0 := rl.own i _ l e el
      have f0 : F0 l = none := rl.ext.ff.free fl
      have ne : (sameS fun a => unlock i a ds (loopF t b ds (env.set i (.exc a)))) ≠ .st := fun y => by rw [y] at z; exact z
      have ea := sameS_at ne l
      rw [← ea] at z
      have r0 := rl.lock e el hl
      have hz : xs.length ≤ sizeLine := by rw [sizeLine_eq, rs.len]; exact hlen
      refine ⟨.ref l, el, .inl ⟨l, xs, rfl, .of hl, fun _ => ?_⟩⟩
      have it : ItD X.K (Itl X.K l) (upd F l (.lst xs)) F ds := itd_list (H := H) (.of upd_same) rs hz
      have sg : ∀ {F2 H2 : Hp} {σ2 : Sg} {e2 : Env}, SRel X.K F0 (upd H0 l (.lst xs)) F2 H2 σ2 e2 → Same F F2 → Same (upd F l (.lst xs)) H2 := fun {F2 H2 σ2 e2} r s a o q => by
        by_cases h : a = l
        · subst h; rw [upd_same] at q; cases q; exact r.ext.hh _ _ upd_same
        · rw [upd_ne h] at q; exact r.rel.sub _ _ (s _ _ q)
      refine ⟨fun i' m σ' H' => ∃ F' env', SRel X.K F0 (upd H0 l (.lst xs)) F' H' σ' env' ∧ Same F F' ∧ m = ds.length - i' ∧ i' ≤ ds.length ∧ okS X.K X.mg W F0 H0 E (unlock i l ds (loopF t b (ds.drop i') env')), ⟨ds.length, F, _, r0, .refl _, rfl, Nat.zero_le _, z⟩, ?_⟩
      rintro q m σ2 H2 ⟨F2, env2, r2, s2, rfl, hi, z2⟩
      by_cases hlt : q < ds.length
      · refine .inr ⟨it.go q H2 (sg r2 s2) hlt, fun σ' H' => ∃ F' env', SRel X.K F0 (upd H0 l (.lst xs)) F' H' σ' env' ∧ Same F F' ∧ okS X.K X.mg W F0 H0 E (unlock i l ds (loopF t b (ds.drop (q + 1)) env')), fun σ' H' ⟨F', env', a, c, d⟩ => ⟨ds.length - (q + 1), by omega, F', env', a, c, rfl, hlt, d⟩, fun v H3 y => ?_⟩
        obtain ⟨F3, x3, dr⟩ := it.yld q F2 H2 v H3 (sg r2 s2) s2 r2.rel.sub y _ (List.getElem?_eq_getElem hlt)
        rw [List.drop_eq_getElem_cons hlt] at z2
        unfold loopF at z2
        cases eb : bindT t ds[q] env2 with
        | none => rw [eb] at z2; exact z2.elim
        | some env3 =>
          simp only [eb] at z2
          refine ⟨F0, upd H0 l (.lst xs), F3, env2, ds[q], env3, r2.step x3, dr, eb, fun σ3 r3 _ => ?_⟩
          have s3 : Same F F3 := s2.trans x3.ff
          refine ⟨F3, upd H0 l (.lst xs), F3, env3, r3.base, ?_⟩
          have fin : ∀ {F4 H4 : Hp} {σ4 : Sg} {e4 : Env} (w : SRel X.K F3 (upd H0 l (.lst xs)) F4 H4 σ4 e4), isExc l e4[i]? = true → SRel X.K F0 H0 F4 H4 σ4 (e4.set i (.ow (.lst ds))) := fun w hh =>
            (w.unbase r3.ext).unlock n0 f0 (isExc_of hh) (rs.mono (s3.trans w.ext.ff))
          cases e4 : b env3 <;> simp only [e4] at z2
          · exact fun F4 H4 σ4 r4 => ⟨F4, _, r4.unbase r3.ext, s3.trans r4.ext.ff, z2⟩
          · exact fun F4 H4 v x4 q => z2 F4 H4 v (ext_out n0 (r3.ext.rebase x4)) (q.back (same_in n0))
          · simp only [Fs.unlock] at z2
            split at z2
            · rename_i hh
              exact fun F4 H4 σ4 r4 => z2 F4 H4 σ4 (fin r4 hh)
            · exact z2.elim
          · exact fun F4 H4 σ4 r4 => ⟨F4, _, r4.unbase r3.ext, s3.trans r4.ext.ff, z2⟩
          · simp only [Fs.unlock] at z2
            split at z2
            · rename_i hh
              exact fun F4 H4 σ4 cls r4 m => z2 F4 H4 σ4 cls (fin r4 hh) m
            · exact z2.elim
          · exact z2
      · have ei : q = ds.length := by omega
        subst ei
        rw [List.drop_length] at z2
        simp only [loopF, Fs.unlock] at z2
        split at z2
        · rename_i hh
          exact .inl ⟨it.stop _ H2 (sg r2 s2) (Nat.le_refl _), z2 F2 H2 σ2 (r2.unlock n0 f0 (isExc_of hh) (rs.mono s2))⟩
        · exact z2.elim
/-- the loop's end where each turn is known -/
theorem loop_det {β : Type} {v : Nat} {b : Stx} {j : β → D} (xs : List β) (E : List β → Env) (turn : ∀ done x rest, xs = done ++ x :: rest → b ((E done).set v (.sh (j x))) = .nx (E (done ++ [x]))) :
    ∀ (rest done : List β), xs = done ++ rest → loopF (.one v) b (rest.map j) (E done) = .nx (E xs)
  | [], done, h => by
    rw [List.append_nil] at h
    subst h
    rfl
  | x :: rest, done, h => by
    rw [List.map_cons]
    unfold loopF
    show (match b ((E done).set v (.sh (j x))) with | .nx e => loopF (.one v) b (rest.map j) e | .ct e => loopF (.one v) b (rest.map j) e | .bk e => .nx e | o => o) = _
    rw [turn done x rest h]
    exact loop_det xs E turn rest (done ++ [x]) (by rw [h, List.append_assoc]; rfl)
theorem forO_ok {β : Type} {v : Nat} {b : Stx} {j : β → D} {xs : List β} {e' : Env} (E : Addr → List β → Env) (h : env[i]? = some (.ow (.lst (xs.map j)))) (hl : xs.length ≤ 16777216) (h0 : ∀ a, E a [] = env.set i (.exc a))
    (turn : ∀ a done x rest, xs = done ++ x :: rest → b ((E a done).set v (.sh (j x))) = .nx (E a (done ++ [x]))) (keep : ∀ a, (E a xs)[i]? = some (.exc a)) (out : ∀ a, (E a xs).set i (.ow (.lst (xs.map j))) = e') : sForO i (.one v) b env = .nx e' := by
  unfold sForO
  rw [h]
  simp only []
  rw [if_pos (by rw [List.length_map]; exact hl)]
  have : (fun a => unlock i a (xs.map j) (loopF (.one v) b (xs.map j) (env.set i (.exc a)))) = fun _ => SO.nx e' := by
    funext a
    rw [← h0 a, loop_det xs (E a) (turn a) xs [] rfl]
    show (if isExc a (E a xs)[i]? = true then SO.nx ((E a xs).set i (.ow (.lst (xs.map j)))) else .st) = _
    rw [keep a, if_pos (by unfold isExc; exact decide_eq_true rfl), out a]
  rw [this, sameS_const]
/-- the slot of a loop's name behind these turns -/
def lastS {β : Type} (s : Slot) (j : β → D) (done : List β) : Slot := match done.getLast? with
  | none => s
  | some x => .sh (j x)
@[simp] theorem lastS_nil {β : Type} (s : Slot) (j : β → D) : lastS s j [] = s := rfl
@[simp] theorem lastS_snoc {β : Type} (s : Slot) (j : β → D) (done : List β) (x : β) : lastS s j (done ++ [x]) = .sh (j x) := by
  unfold lastS
  rw [List.getLast?_concat]
end
end Fs

/-! ### setdefault of an own dict, as a statement and within an append -/
namespace Fs
open PySem PySem.Spec PyProof.Rows L2
section
variable {X : Cx} {W : WX} {pos : Pos} {K : PySem.W.Frag} {mg : Str → Option Value} {F0 H0 F H F' H' : Hp} {σ : Sg} {env : Env} {i j : Nat} {l : Addr}
def kSetd (kvs : List (Key × D)) (k : Key) (d : D) : List (Key × D) := match dLook kvs k with
  | some _ => kvs
  | none => dPut kvs k d
def vSetd (kvs : List (Key × D)) (k : Key) (d : D) : D := match dLook kvs k with
  | some e => e
  | none => d
theorem set_same {env : Env} {j : Nat} {s : Slot} (e : env[j]? = some s) : env.set j s = env := by
  refine List.ext_getElem? fun k => ?_
  by_cases h : j = k
  · subst h
    rw [List.getElem?_set_self (List.getElem?_eq_some_iff.mp e).1, e]
  · rw [List.getElem?_set_ne h]
theorem setd_ok {kvs : List (Key × D)} {fk fv : Sx} {r q : R} {k : Key} {Q : VK} (rl : SRel K F0 H0 F H σ env) (e : env[j]? = some (.ow (.dct kvs))) (e1 : fk env = .ok r) (e2 : dKey r.d = some k) (e3 : fv env = .ok q) (kp : q.keeps) (hl : kvs.length < 16777216)
    (z : ∀ F' H' v, SRel K F0 H0 F' H' σ (env.set j (.ow (.dct (kSetd kvs k q.d)))) → DR K F' v (vSetd kvs k q.d) → Q v H') : tDSetd (tVar j) (tE K mg W fk) (tE K mg W fv) σ H Q := by
  obtain ⟨a, el, fl, ks, hk, dr⟩ := rl.rel.ow j _ e
  refine ⟨.ref a, el, a, rfl, .inl ⟨ks, .of hk⟩, F, env, rl.rel, ?_⟩
  rw [e1]
  intro F1 H1 y x1 q1
  have r1 := rl.step x1
  refine ⟨F1, env, r1.rel, ?_⟩
  rw [e3]
  intro F2 H2 w x2 q2
  obtain ⟨F3, x3, sm, dw⟩ := freeze x2 q2 kp
  have r3 := r1.step x3
  obtain ⟨a', el', fl3, ks3, hk3, dr3⟩ := r3.rel.ow j _ e
  rw [el] at el'
  cases el'
  have look := dr3.look (k := k)
  refine ⟨ks3, k, hk3, dKey_v (x3.dv q1.dv) e2, by rw [sizeLine_eq, dr3.len]; exact hl, fun v hv => ?_, fun hn => ?_⟩
  · cases ek : dLook kvs k with
    | none => rw [ek] at look; rw [look] at hv; cases hv
    | some d =>
      rw [ek] at look
      obtain ⟨v', h1, h2⟩ := look
      rw [h1] at hv
      cases hv
      refine z F3 H2 _ ?_ ?_
      · unfold kSetd
        rw [ek, set_same e]
        exact r3
      · unfold vSetd
        rw [ek]
        exact h2
  · cases ek : dLook kvs k with
    | some d =>
      rw [ek] at look
      obtain ⟨v', h1, h2⟩ := look
      rw [h1] at hn
      cases hn
    | none =>
      refine z F3 _ _ ?_ ?_
      · unfold kSetd
        rw [ek]
        exact r3.mut e el ⟨_, upd_same, dr3.put dw⟩
      · unfold vSetd
        rw [ek]
        exact dw
def sSetd (j : Nat) (fk fv : Sx) : Stx := fun env => match env[j]? with
  | some (.ow (.dct kvs)) => (match fk env with
    | .ok r => (match dKey r.d with
      | some k => (match fv env with
        | .ok (.bo _) => .st
        | .ok q => if kvs.length < 16777216 then .nx (env.set j (.ow (.dct (kSetd kvs k q.d)))) else .st
        | _ => .st)
      | none => .st)
    | _ => .st)
  | _ => .st
theorem sv_setd {x : Str} {px sp cp : Pos} {ek ev0 : Expr} {fk fv : Sx} (hx : PE X (.Name x px) (tVar j)) (hk : EV X W ek fk) (hv : EV X W ev0 fv) (m : M2 X (.Name x px) "setdefault" sp ek ev0 cp)
    (hs : swapsWith (.Call (.Attribute (.Name x px) "setdefault" sp) [ek, ev0] [] cp) none pos.line X.env = pure false := by rfl) :
    SV X W (.Expr (.Call (.Attribute (.Name x px) "setdefault" sp) [ek, ev0] [] cp) pos) (sSetd j fk fv) := (ps_expr (pe_dsetd hx hk hv m) hs).imp fun E σ H z => by
  obtain ⟨F0, H0, F, env, rl, z⟩ := z
  unfold sSetd at z
  cases e : env[j]? with
  | none => simp only [e] at z; exact z.elim
  | some s =>
    cases s with
    | un => simp only [e] at z; exact z.elim
    | exc _ => simp only [e] at z; exact z.elim
    | sh d => simp only [e] at z; exact z.elim
    | ow d =>
      cases d <;> first | (simp only [e] at z; exact z.elim; done) | skip
      simp only [e] at z
      cases e1 : fk env with
      | ex _ => simp only [e1] at z; exact z.elim
      | st => simp only [e1] at z; exact z.elim
      | ok r =>
        simp only [e1] at z
        cases e2 : dKey r.d with
        | none => simp only [e2] at z; exact z.elim
        | some k =>
          simp only [e2] at z
          cases e3 : fv env with
          | ex _ => simp only [e3] at z; exact z.elim
          | st => simp only [e3] at z; exact z.elim
          | ok q =>
            cases q <;> simp only [e3] at z
            · split at z
              · exact setd_ok rl e e1 e2 e3 trivial (by assumption) fun F' H' v r' _ => z F' H' σ r'
              · exact z.elim
            · split at z
              · exact setd_ok rl e e1 e2 e3 trivial (by assumption) fun F' H' v r' _ => z F' H' σ r'
              · exact z.elim
            · exact z.elim
def sAppSetd (i j : Nat) (fk fv : Sx) : Stx := fun env => match env[i]?, env[j]? with
  | some (.ow (.lst ds)), some (.ow (.dct kvs)) => (match fk env with
    | .ok r => (match dKey r.d with
      | some k => (match fv env with
        | .ok (.bo _) => .st
        | .ok q => if kvs.length < 16777216 ∧ ds.length < 16777216 ∧ i ≠ j then .nx ((env.set j (.ow (.dct (kSetd kvs k q.d)))).set i (.ow (.lst (ds ++ [vSetd kvs k q.d])))) else .st
        | _ => .st)
      | none => .st)
    | _ => .st)
  | _, _ => .st
theorem sv_appSetd {x y : Str} {px py sp cp ap cp2 : Pos} {ek ev0 : Expr} {fk fv : Sx} (hy : PE X (.Name y py) (tVar i)) (hx : PE X (.Name x px) (tVar j)) (hk : EV X W ek fk) (hv : EV X W ev0 fv) (m : M2 X (.Name x px) "setdefault" sp ek ev0 cp)
    (hbase : attributeBase (.Name y py) "append" X.env (eval (.Name y py) X.env) = eval (.Name y py) X.env := by rfl)
    (hst : starEach [.Call (.Attribute (.Name x px) "setdefault" sp) [ek, ev0] [] cp] X.env = (false, eval (.Call (.Attribute (.Name x px) "setdefault" sp) [ek, ev0] [] cp) X.env) :: starEach [] X.env := by rfl)
    (hfew : ((backTo cp2 (starEach [.Call (.Attribute (.Name x px) "setdefault" sp) [ek, ev0] [] cp] X.env)).all (fun x => !x.1) && (backToKw cp2 (keywordEach [] X.env)).all (fun x => x.1.isSome)
      && decide (([.Call (.Attribute (.Name x px) "setdefault" sp) [ek, ev0] [] cp] : List Expr).length + ([] : List Keyword).length + (if ([] : List Keyword).isEmpty then 0 else 1) < 30)) = true := by rfl)
    (hline : (ap.endLine == cp2.line) = true := by rfl) (hplain : (backTo cp2 (starEach [] X.env)).any (·.1) = false := by rfl)
    (hs : swapsWith (.Call (.Attribute (.Name y py) "append" ap) [.Call (.Attribute (.Name x px) "setdefault" sp) [ek, ev0] [] cp] [] cp2) none pos.line X.env = pure false := by rfl) :
    SV X W (.Expr (.Call (.Attribute (.Name y py) "append" ap) [.Call (.Attribute (.Name x px) "setdefault" sp) [ek, ev0] [] cp] [] cp2) pos) (sAppSetd i j fk fv) :=
  (ps_expr (pe_bm PySem.F.plainAttrs_list PySem.F.slot_list_append PySem.F.type_list_append mt_append hy (pa_cons (pe_dsetd hx hk hv m) pa_nil hst) hbase hfew hline hst hplain) hs).imp fun E σ H z => by
  obtain ⟨F0, H0, F, env, rl, z⟩ := z
  unfold sAppSetd at z
  have main : ∀ (ds : List D) (kvs : List (Key × D)) (r q : R) (k : Key), env[i]? = some (.ow (.lst ds)) → env[j]? = some (.ow (.dct kvs)) → fk env = .ok r → dKey r.d = some k → fv env = .ok q → q.keeps →
      okS X.K X.mg W F0 H0 E (if kvs.length < 16777216 ∧ ds.length < 16777216 ∧ i ≠ j then .nx ((env.set j (.ow (.dct (kSetd kvs k q.d)))).set i (.ow (.lst (ds ++ [vSetd kvs k q.d])))) else .st) →
      tBM X.K "list" rAppend (tVar i) (tCons (tDSetd (tVar j) (tE X.K X.mg W fk) (tE X.K X.mg W fv)) tNil) σ H fun _ H' => E.nx σ H' := by
    intro ds kvs r q k a1 a2 a3 a4 a5 kp z
    split at z
    · rename_i cnd
      obtain ⟨c1, c2, c3⟩ := cnd
      obtain ⟨l, el, fl, o⟩ := rl.rel.ow i _ a1
      refine ⟨.ref l, el, tyV_lst (d := .lst ds) rfl o, setd_ok rl a2 a3 a4 a5 kp c1 fun F' H' v r' dv => ?_⟩
      have a1' : (env.set j (.ow (.dct (kSetd kvs k q.d))))[i]? = some (.ow (.lst ds)) := by rw [List.getElem?_set_ne (Ne.symm c3)]; exact a1
      obtain ⟨l', el', fl', xs, hl, rs⟩ := r'.rel.ow i _ a1'
      rw [el] at el'
      cases el'
      exact ⟨l, xs, v, rfl, rfl, hl, by rw [sizeLine_eq, rs.len]; exact c2, z F' _ σ (r'.mut a1' el ⟨_, upd_same, rs.app (.cons dv .nil)⟩)⟩
    · exact z.elim
  cases e0 : env[i]? with
  | none => simp only [e0] at z; exact z.elim
  | some s0 =>
    cases s0 with
    | un => simp only [e0] at z; exact z.elim
    | exc _ => simp only [e0] at z; exact z.elim
    | sh d => simp only [e0] at z; exact z.elim
    | ow d0 =>
      cases d0 <;> first | (simp only [e0] at z; exact z.elim; done) | skip
      cases e : env[j]? with
      | none => simp only [e0, e] at z; exact z.elim
      | some s =>
        cases s with
        | un => simp only [e0, e] at z; exact z.elim
        | exc _ => simp only [e0, e] at z; exact z.elim
        | sh d => simp only [e0, e] at z; exact z.elim
        | ow d =>
          cases d <;> first | (simp only [e0, e] at z; exact z.elim; done) | skip
          simp only [e0, e] at z
          cases e1 : fk env with
          | ex _ => simp only [e1] at z; exact z.elim
          | st => simp only [e1] at z; exact z.elim
          | ok r =>
            simp only [e1] at z
            cases e2 : dKey r.d with
            | none => simp only [e2] at z; exact z.elim
            | some k =>
              simp only [e2] at z
              cases e3 : fv env with
              | ex _ => simp only [e3] at z; exact z.elim
              | st => simp only [e3] at z; exact z.elim
              | ok q =>
                cases q <;> simp only [e3] at z
                · exact main _ _ r (.cl _) k e0 e e1 e2 e3 trivial z
                · exact main _ _ r (.ow _) k e0 e e1 e2 e3 trivial z
                · exact z.elim
end
end Fs

/-! ### sorted() of a tuple of whole numbers -/
namespace Fs
open PySem PySem.Spec PyProof.Rows L2
section
variable {prog : Program} {w : World} {A : Around} {s : Shared} {E : Value → Shared → Prop}
theorem collect_tup {l : Addr} {vs : List Value} {Q : List Value → Shared → Prop} (hl : IsTup s.heap l vs.toArray)
    (h : Q vs { s with heap := (s.heap.push (seqObj "list" #[] 0)).update s.heap.objs.size (Obj.mapSeq (· ++ vs.toArray)) }) (hsz : vs.length ≤ sizeLine) :
    wpAny (model prog w) A (collect (.ref l)) Q E s := by
  obtain ⟨o, ho, hc, n, hd⟩ := id hl
  unfold collect
  refine wpAny_bind (wpAny_runValue (codeAny_builtin entry_proto_collect' ?_))
  show wpAny _ _ (do again (.builtin "list.__iadd__" ⟨[← newList [], .ref l], []⟩)) _ _ s
  refine wpAny_bind (wpAny_newList (wpAny_pure ⟨Code.quiet_builtin _ (by decide +kernel), codeAny_builtin entry_list_iadd' ?_⟩))
  show wpAny _ _ (Builtin.List.listExtendWith (.ref s.heap.objs.size) (.ref l) (.ref s.heap.objs.size)) _ _ { s with heap := s.heap.push (seqObj "list" #[] 0) }
  unfold Builtin.List.listExtendWith
  have ho' : (s.heap.push (seqObj "list" #[] 0)).get? l = some o := Heap.get?_push_of_some _ ho
  refine wpAny_bind (wpAny_typeOf (T := "tuple") ⟨o, ho', hc⟩ ?_)
  have ht : (Value.type "tuple" == Value.type "tuple") = true := by rfl
  rw [if_pos (by rw [ht]; simp)]
  refine wpAny_bind (listItems_at ho' hd ?_)
  refine wpAny_bind (listItems_at (xs := #[]) (n := 0) (Heap.get?_push_size _ rfl) rfl ?_)
  rw [if_neg (by simp)]
  refine wpAny_bind (listUpdate_at (xs := #[]) (n := 0) (Heap.get?_push_size _ rfl) rfl ?_ (Nat.zero_le _) (by show (#[] ++ vs.toArray).size ≤ sizeLine + 1; simp only [Array.size_append, List.size_toArray, List.length_nil]; omega))
  refine wpAny_pure ?_
  show wpAny (model prog w) A (do
      let o ← load s.heap.objs.size
      match o.data with
      | .seq xs _ => pure xs.toList
      | _ => unsupported "internal:collect") Q E { s with heap := (s.heap.push (seqObj "list" #[] 0)).update s.heap.objs.size (Obj.mapSeq (· ++ vs.toArray)) }
  refine wpAny_bind (wpAny_load (get?_update_seq (Heap.get?_push_size _ rfl) _) ?_)
  show wpAny _ _ (pure ((#[] : Array Value) ++ vs.toArray).toList) Q E _
  rw [show ((#[] : Array Value) ++ vs.toArray).toList = vs by simp]
  exact wpAny_pure h
open SrtO in
theorem sorted_ordT {l : Addr} {vs : List Value} {ltv : Value → Value → Bool} {Q : Value → Shared → Prop} (O : Swo ltv) (hl : IsTup s.heap l vs.toArray) (hz : vs.length ≤ sizeLine)
    (hS : 2 ≤ vs.length → ∀ (h₁ : Heap) (a : Addr), h₁.get? a = some (seqObj "list" vs.toArray 0) → (∀ b o, s.heap.get? b = some o → b ≠ a ∧ h₁.get? b = some o) → SortableO prog w A.in1.in1 { s with heap := h₁ } a vs ltv)
    (h : ∀ out : List Value, Srtd ltv out → Stb ltv out vs → Q (.ref (s.heap.objs.size + 1)) { s with heap := sortedAll s.heap vs out.toArray }) :
    wpAny (model prog w) A (call (.builtin "sorted") [.ref l]) Q E s := by
  refine Calls.call_function_entry kind_sorted plain_sorted entry_sorted (args_sorted1 _) ?_
  unfold Builtin.«sorted»
  refine wpAny_bind (m := checkCount "sorted" 1 1 _) (wpAny_pure ?_)
  refine wpAny_bind (collect_tup hl ?_ hz)
  refine wpAny_bind (wpAny_newList ?_ hz)
  have hsz : ((s.heap.push (seqObj "list" #[] 0)).update s.heap.objs.size (Obj.mapSeq (· ++ vs.toArray))).objs.size = s.heap.objs.size + 1 := by
    rw [Heap.size_update, size_push']
  have hoL : (((s.heap.push (seqObj "list" #[] 0)).update s.heap.objs.size (Obj.mapSeq (· ++ vs.toArray))).push (seqObj "list" vs.toArray 0)).get? (s.heap.objs.size + 1) = some (seqObj "list" vs.toArray 0) := by
    rw [← hsz]; exact Heap.get?_push_size _ rfl
  have keep : ∀ b o, s.heap.get? b = some o → b ≠ s.heap.objs.size + 1 ∧ (((s.heap.push (seqObj "list" #[] 0)).update s.heap.objs.size (Obj.mapSeq (· ++ vs.toArray))).push (seqObj "list" vs.toArray 0)).get? b = some o := fun b o q => by
    have hlt : b < s.heap.objs.size := Heap.lt_size q
    refine ⟨Nat.ne_of_lt (Nat.lt_succ_of_lt hlt), Heap.get?_push_of_some _ ?_⟩
    rw [Heap.get?_update_ne _ _ _ _ (Nat.ne_of_lt hlt)]
    exact Heap.get?_push_of_some _ q
  show wpAny _ _ _ _ _ { s with heap := ((s.heap.push (seqObj "list" #[] 0)).update s.heap.objs.size (Obj.mapSeq (· ++ vs.toArray))).push (seqObj "list" vs.toArray 0) }
  rw [hsz]
  refine wpAny_bind (wpAny_holding (wpAny_call_entry slot_list_sort ⟨_, hoL, rfl⟩ entry_list_sort (list_sort_ord O hoL hz (fun h2 => hS h2 _ _ hoL keep) fun out hs hb => ⟨_, rfl, ?_⟩) (args_list_sort _)))
  exact wpAny_pure ⟨_, rfl, h out hs hb⟩
end
section
variable {X : Cx} {K : PySem.W.Frag} {F H : Hp}
def rSortedIT (K : PySem.W.Frag) : List V → Hp → VK → Prop := fun vs H Q => ∃ (a : Addr) (ns : List Int), vs = [V.ref a] ∧ SqT K H a (ns.map V.int) ∧
  ∀ (ns' : List Int) (p : Addr), ns'.Perm ns → ns'.Pairwise (· ≤ ·) → H p = none → Q (.ref p) (upd H p (.lst (ns'.map V.int)))
theorem cr_sortedIT : CallR X (.builtin "sorted") (rSortedIT X.K) := by
  intro pins s σ H vs us Q I r h
  obtain ⟨a, ns, rfl, hs, q⟩ := h
  obtain ⟨its, rv, hl, hz⟩ := I.tuple hs
  rw [Vals.ref1 r]
  have hi := rv.ints
  refine sorted_ordT SrtO.swo_int hl (by rw [← rv.length]; exact hz) (fun h2 h₁ a' _ _ => SrtO.ints_sortable hi h2) fun out h1 h2 => ?_
  obtain ⟨k1, k2, k3⟩ := SrtO.ints_out hi h1 h2
  obtain ⟨ep, he'⟩ := PyProof.Rows.sortedAll_at s.heap its out.toArray
  have hlen : ((out.map SrtO.iv).map V.int).length ≤ sizeLine := by
    rw [List.length_map, k2.length_eq]
    rw [List.length_map] at hz
    exact hz
  exact ⟨.ref _, upd H (s.heap.objs.size + 1) (.lst ((out.map SrtO.iv).map V.int)), I.laid (t' := s.toks) (fun _ _ => PyProof.Rows.sortedAll_old) (Nat.le_succ _) ⟨hlen, out, ep, vals_of_ints k1, he'⟩, rfl, q _ _ k2 k3 (I.hok.fresh (Nat.le_succ _))⟩
def dSortedA : D → Out R
  | .tup l => (match intsOf l with
    | some ns => oD (.lst ((sortI ns).map D.int))
    | none => .st)
  | d => dSorted d
theorem o1_sortedA : Op1 K (fun x H Q => rSortedI K [x] H Q ∨ rSortedIT K [x] H Q) dSortedA := by
  intro F H x a Q s hx h
  have old : ∀ a : D, DV K F H x a → okV K F H Q (dSorted a) → rSortedI K [x] H Q ∨ rSortedIT K [x] H Q := fun a hx h => .inl (o1_sorted F H x a Q s hx h)
  cases a
  case tup l =>
    show _ ∨ _
    have h : okV K F H Q (match intsOf l with | some ns => oD (.lst ((sortI ns).map D.int)) | none => .st) := h
    cases e : intsOf l with
    | none => rw [e] at h; exact h.elim
    | some ns =>
      rw [e] at h
      obtain ⟨a, xs, rfl, q1, r1⟩ := hx.tup s
      rw [intsOf_eq e] at r1
      have e2 := r1.ints
      subst e2
      refine .inr ⟨a, ns, rfl, q1, fun ns' p pm up hp => ?_⟩
      have e2 : ns' = sortI ns := sort_one up (up_sortI ns) (pm.trans perm_sortI.symm)
      subst e2
      exact okV_newL s h (.of_ints _) p hp
  all_goals exact old _ hx h
theorem n_sortedA : ∀ a, noEx (dSortedA a) := by
  intro a
  unfold dSortedA
  split
  · unfold oD; split <;> trivial
  · exact n_sorted _
theorem cr_sortedA (_ : X.calm = true) : CallR X (.builtin "sorted") (fun xs H Q => rSortedI X.K xs H Q ∨ rSortedIT X.K xs H Q) := cr_sortedI.or cr_sortedIT
@[simp] theorem dSortedA_lst (ds : List D) : dSortedA (.lst ds) = dSorted (.lst ds) := rfl
end
end Fs

/-! ### min of a list of lists of whole numbers -/
namespace Fs
open PySem PySem.Spec PyProof.Rows L2
def encL (ns : List Int) : PyData := .list (ns.map .int)
/-- the place of the least -/
def leastL (nss : List (List Int)) : Nat := argBest (fun i j => PySem.W.dataLt ((nss.map encL).getD i .none) ((nss.map encL).getD j .none)) (nss.length - 1)
theorem leastL_lt {nss : List (List Int)} (h : 0 < nss.length) : leastL nss < nss.length := by
  have := argBest_le (fun i j => PySem.W.dataLt ((nss.map encL).getD i .none) ((nss.map encL).getD j .none)) (nss.length - 1)
  unfold leastL
  omega
theorem depth_encL (ns : List Int) : (encL ns).depth ≤ 2 := by
  unfold encL PyData.depth
  rw [PySem.W.depth_ints]
  decide
theorem depth_encLs : ∀ nss : List (List Int), PyData.depthAll (nss.map encL) ≤ 2
  | [] => by unfold PyData.depthAll; exact Nat.zero_le _
  | ns :: nss => by
    have h1 := depth_encL ns
    have h2 := depth_encLs nss
    rw [List.map_cons]
    unfold PyData.depthAll
    omega
section
variable {prog : Program} {w : World} {A : Around} {s : Shared} {E : Value → Shared → Prop}
theorem min_list_at {l : Addr} {vs : Array Value} {xs : List PyData} {as : List Addr} {Q : Value → Shared → Prop} (hh : A.handled = none) (hl : s.heap.IsList l vs) (hr : ReadsAll s.heap vs.toList xs as) (hne : 0 < xs.length) (ha : PySem.W.AlikeAll xs) (hu : A.units + 1 + PyData.depthAll xs < cLine)
    (h : ∀ v h' tk, vs[argBest (fun i j => PySem.W.dataLt (xs.getD i .none) (xs.getD j .none)) (xs.length - 1)]? = some v → (∀ b o, s.heap.get? b = some o → h'.get? b = some o) → Q v { s with heap := h', toks := tk }) :
    wpAny (model prog w) A (call (.builtin "min") [.ref l]) Q E s := by
  have hn : vs.size = xs.length := PySem.W.readsAll_len hr
  refine PySem.call_min_walkH (PySem.W.iter_listW (A := A.in1) hh hl fun s₂ e W st hfp hw hk => ?_)
  refine ⟨_, _, _, _, _, _, _, s.heap, _, rfl, W, st, hfp, by omega, hw, hk, PySem.W.cmpIn_lt (A := A.in1) hr ha (by show A.units + 1 + _ < _; exact hu), fun v s' hP m => ?_⟩
  obtain ⟨h', tk, rfl, hk'⟩ := PySem.W.moved_old e rfl m
  rw [hn] at hP
  exact h v h' tk hP hk'
end
section
variable {X : Cx} {K : PySem.W.Frag} {F H : Hp} {W : WX} {pos : Pos} {mg : Str → Option Value}
def rMinL (K : PySem.W.Frag) : List V → Hp → VK → Prop := fun vs H Q => ∃ (l : Addr) (xs : List V) (nss : List (List Int)) (x : V), vs = [.ref l] ∧ SqL K H l xs ∧ DpAll K H xs (nss.map encL) ∧ xs[leastL nss]? = some x ∧ Q x H
theorem cr_minL (hu : X.A.units + 66 < cLine) (hc : X.calm = true) : CallR X (.builtin "min") (rMinL X.K) := by
  intro pins s σ H vs us Q I r h
  obtain ⟨l, xs, nss, x, rfl, hs, hd, hx, q⟩ := h
  obtain ⟨its, rv, pl, _⟩ := I.list hs
  rw [Vals.ref1 r]
  obtain ⟨as, hr⟩ := Dp.readsAll I _ _ _ hd rv
  have hn : nss.length = xs.length := by
    have h1 := SeqAt.ReadsAll.length _ _ _ hr
    have h2 := rv.length
    rw [List.length_map] at h1
    omega
  have h0 : 0 < nss.length := by
    have := (List.getElem?_eq_some_iff.mp hx).1
    omega
  have hdep := depth_encLs nss
  refine min_list_at (I.ok.hd hc) pl.isList (by simpa using hr) (by rw [List.length_map]; exact h0) ⟨fun a ha b hb => ?_, fun a ha e => ?_⟩ (by omega) fun v h' tk hv kp => ?_
  · obtain ⟨p, _, rfl⟩ := List.mem_map.mp ha
    obtain ⟨q, _, rfl⟩ := List.mem_map.mp hb
    show PySem.W.alike (.list _) (.list _) = true
    unfold PySem.W.alike
    exact PySem.W.alike_ints p q
  · obtain ⟨p, _, rfl⟩ := List.mem_map.mp ha
    cases e
  · rw [List.length_map] at hv
    obtain ⟨u, hu2, rx⟩ := rv.get hx
    have e2 : its[leastL nss]? = some v := by
      unfold leastL
      simpa using hv
    rw [hu2] at e2
    cases e2
    exact ⟨x, H, I.kept kp, rx, q⟩
/-- the numbers of lists -/
def lstsOf : List D → Option (List (List Int))
  | [] => some []
  | .lst l :: r => match intsOf l, lstsOf r with
    | some ns, some nss => some (ns :: nss)
    | _, _ => none
  | _ :: _ => none
theorem lstsOf_eq : ∀ {ds : List D} {nss : List (List Int)}, lstsOf ds = some nss → ds = nss.map fun ns => D.lst (ns.map D.int)
  | [], nss, e => by cases e; rfl
  | d :: r, nss, e => by
    unfold lstsOf at e
    split at e
    · rename_i q; cases q
    · rename_i l r' q
      cases q
      cases e1 : intsOf l with
      | none => rw [e1] at e; cases e
      | some ns =>
        cases e2 : lstsOf r with
        | none => rw [e1, e2] at e; cases e
        | some mss =>
          rw [e1, e2] at e
          cases e
          rw [intsOf_eq e1, lstsOf_eq e2]
          rfl
    · cases e
theorem dp_lsts (s : Same F H) : ∀ {xs : List V} {nss : List (List Int)}, DRs K F xs (nss.map fun ns => D.lst (ns.map D.int)) → DpAll K H xs (nss.map encL)
  | [], [], .nil => .nil
  | x :: xs, ns :: nss, .cons r t => by
    cases r with
    | lst h rs =>
      have := rs.ints
      subst this
      exact .cons (.lst (.of (s _ _ h)) (dpInts ns)) (dp_lsts s t)
def dMinL : D → Out R
  | .lst ds => match lstsOf ds with
    | some nss => if 0 < nss.length then cD (.lst ((nss.getD (leastL nss) []).map D.int)) else .st
    | none => .st
  | _ => .st
theorem o1_minL : Op1 K (fun x => rMinL K [x]) dMinL := by
  intro F H x a Q s hx h
  cases a <;> first | exact (False.elim h) | skip
  rename_i ds
  unfold dMinL at h
  cases e : lstsOf ds with
  | none => simp only [e] at h; exact h.elim
  | some nss =>
    simp only [e] at h
    obtain ⟨c, h⟩ := if_some h
    obtain ⟨l, xs, rfl, q1, r1⟩ := hx.lst s
    rw [lstsOf_eq e] at r1
    have hi := leastL_lt c
    obtain ⟨y, hy, ry⟩ := r1.get (i := leastL nss) (d := .lst ((nss.getD (leastL nss) []).map D.int)) (by
      rw [List.getElem?_map, List.getElem?_eq_getElem hi, List.getD_eq_getElem?_getD, List.getElem?_eq_getElem hi]
      rfl)
    exact ⟨l, xs, nss, y, rfl, .of q1, dp_lsts s r1, hy, okV_cl s h ry⟩
theorem n_minL : ∀ a, noEx (dMinL a) := by
  intro a; unfold dMinL cD; repeat' (first | trivial | split)
/-! min of lists made here: the one told is the asker's own -/
mutual
def flatD : D → Bool
  | .non => true
  | .bl _ => true
  | .int _ => true
  | .str _ => true
  | .tup l => flatDs l
  | _ => false
def flatDs : List D → Bool
  | [] => true
  | d :: ds => flatD d && flatDs ds
end
def flatS : Slot → Bool
  | .un => true
  | .sh d => flatD d
  | _ => false
/-- without its lists -/
def noLst (F : Hp) : Hp := fun a => match F a with
  | some (.lst _) => none
  | o => o
theorem noLst_same (F : Hp) : Same (noLst F) F := fun a o q => by
  unfold noLst at q
  split at q
  · cases q
  · exact q
theorem noLst_tup {a : Addr} {xs : List V} (h : SqN K F a xs) : SqN K (noLst F) a xs := by
  rcases h with ⟨o, n, h⟩ | h
  · exact .inl ⟨o, n, by unfold noLst; rw [h]⟩
  · exact .inr h
mutual
theorem flat_DR : ∀ {v : V} {d : D}, flatD d = true → DR K F v d → DR K (noLst F) v d
  | _, _, _, .non => .non
  | _, _, _, .bl b => .bl b
  | _, _, _, .int b => .int b
  | _, _, _, .str b => .str b
  | _, _, h, .tup q r => .tup (noLst_tup q) (flat_DRs (by unfold flatD at h; exact h) r)
  | _, _, h, .lst _ _ => by unfold flatD at h; cases h
  | _, _, h, .dct _ _ => by unfold flatD at h; cases h
  | _, _, h, .scr _ => by unfold flatD at h; cases h
  | _, _, h, .dcz _ _ => by unfold flatD at h; cases h
  | _, _, h, .dtk _ _ => by unfold flatD at h; cases h
theorem flat_DRs : ∀ {v : List V} {d : List D}, flatDs d = true → DRs K F v d → DRs K (noLst F) v d
  | _, _, _, .nil => .nil
  | _, _, h, .cons r t => by
    unfold flatDs at h
    rw [Bool.and_eq_true] at h
    exact .cons (flat_DR h.1 r) (flat_DRs h.2 t)
end
theorem Rel.flat {σ : Sg} {env : Env} (r : Rel K F H σ env) (h : env.all flatS = true) : Rel K (noLst F) H σ env := by
  have at_ : ∀ {i : Nat} {s : Slot}, env[i]? = some s → flatS s = true := fun {i s} q => List.all_eq_true.mp h s (List.mem_of_getElem? q)
  refine ⟨(noLst_same F).trans r.sub, r.len, fun i d q => ?_, fun i d q => ?_, fun i j d e l a b => ?_, r.ex⟩
  · obtain ⟨v, h1, h2⟩ := r.sh i d q
    exact ⟨v, h1, flat_DR (at_ q) h2⟩
  · have := at_ q
    cases this
  · have := at_ a
    cases this
def eMinL (f : Sx) : Sx := fun env => if env.all flatS = true then (match f env with
  | .ok (.ow (.lst ds)) => (match lstsOf ds with
    | some nss => if 0 < nss.length then .ok (.ow (.lst ((nss.getD (leastL nss) []).map D.int))) else .st
    | none => .st)
  | _ => .st) else .st
theorem ev_minL {p : Pos} {e : Expr} {f : Sx} (hu : X.A.units + 66 < cLine) (hc : X.calm = true) (hg : Gl X "min") (hm : X.mg "min" = none) (hv : bootBuiltins "min" = some (.builtin "min")) (ha : EV X W e f)
    (he : starEach [e] X.env = (false, eval e X.env) :: starEach [] X.env := by rfl) : EV X W (.Call (.Name "min" p) [e] [] pos) (eMinL f) := (pe_callB (cr_minL hu hc) hg hm hv (pa_cons ha pa_nil he) (by decide) (by decide) he rfl).imp fun σ H Q z => by
  obtain ⟨F, env, rl, z⟩ := z
  unfold eMinL at z
  split at z
  · rename_i fl
    refine ⟨noLst F, env, rl.flat fl, ?_⟩
    cases ef : f env with
    | ex c => simp only [ef] at z; exact z.elim
    | st => simp only [ef] at z; exact z.elim
    | ok r =>
      cases r with
      | cl d => simp only [ef] at z; exact z.elim
      | bo d => simp only [ef] at z; exact z.elim
      | ow d =>
        cases d <;> first | (simp only [ef] at z; exact z.elim; done) | skip
        rename_i ds
        simp only [ef] at z
        cases el : lstsOf ds with
        | none => simp only [el] at z; exact z.elim
        | some nss =>
          simp only [el] at z
          split at z
          · rename_i c
            rintro F1 H1 v x ⟨l, rfl, n0, fl1, xs, hl, rs⟩
            rw [lstsOf_eq el] at rs
            have hi := leastL_lt c
            obtain ⟨y, hy, ry⟩ := rs.get (i := leastL nss) (d := .lst ((nss.getD (leastL nss) []).map D.int)) (by
              rw [List.getElem?_map, List.getElem?_eq_getElem hi, List.getD_eq_getElem?_getD, List.getElem?_eq_getElem hi]
              rfl)
            refine ⟨l, xs, nss, y, rfl, .of hl, dp_lsts x.fh rs, hy, ?_⟩
            cases ry with
            | @lst a ys _ q r1 =>
              have ha : H a = none := by
                rcases x.nw a _ q with h | h
                · exact h
                · unfold noLst at h
                  split at h
                  · cases h
                  · rename_i nl
                    exact absurd h (nl ys)
              have e1 := r1.ints
              subst e1
              exact z F H1 _ ⟨x.hh, .refl _, rl.sub.trans x.hh, fun _ _ h => .inr h⟩ ⟨a, rfl, ha, rl.sub.free ha, _, x.fh _ _ q, .of_ints _⟩
          · exact z.elim
  · exact z.elim
end
end Fs

/-! ### sorted() of a dict with few whole numbers as keys -/
namespace Fs
open PySem PySem.Spec PyProof.Rows L2
def keysI : List (Key × D) → Option (List Int)
  | [] => some []
  | (.inl k, _) :: r => (keysI r).map (k :: ·)
  | (.inr _, _) :: _ => none
theorem keysI_eq : ∀ {kvs : List (Key × D)} {ks : List Int}, keysI kvs = some ks → kvs.map (·.1) = ks.map Sum.inl
  | [], ks, e => by cases e; rfl
  | (.inl k, d) :: r, ks, e => by
    unfold keysI at e
    cases q : keysI r with
    | none => rw [q] at e; cases e
    | some ks' =>
      rw [q] at e
      cases e
      rw [List.map_cons, keysI_eq q]
      rfl
  | (.inr _, _) :: r, ks, e => by unfold keysI at e; cases e
section
variable {X : Cx} {K : PySem.W.Frag} {F H : Hp}
theorem DRk.keys2 : ∀ {ks : List (Key × V)} {kvs : List (Key × D)}, DRk K F ks kvs → ks.map (·.1) = kvs.map (·.1)
  | _, _, .nil => rfl
  | _, _, .cons _ r => by rw [List.map_cons, List.map_cons, DRk.keys2 r]
def rSortedK : List V → Hp → VK → Prop := fun xs H Q => ∃ (a : Addr) (kvs : List (Key × V)) (ks : List Int), xs = [.ref a] ∧ Rd H a (.dK kvs) ∧ kvs.map (·.1) = ks.map Sum.inl ∧ ks.length < 64 ∧
    ∀ (ys : List Int) (p : Addr), ys.Perm ks → ys.Pairwise (· ≤ ·) → H p = none → Q (.ref p) (upd H p (.lst (ys.map V.int)))
theorem cr_sortedK (hc : X.calm = true) : CallR X (.builtin "sorted") rSortedK := call_sortedDI hc
def dSortedK : D → Out R
  | .dct kvs => (match keysI kvs with
    | some ks => if ks.length < 64 then oD (.lst ((sortI ks).map D.int)) else .st
    | none => .st)
  | _ => .st
theorem o1_sortedK : Op1 K (fun x => rSortedK [x]) dSortedK := by
  intro F H x a Q s hx h
  cases a <;> first | exact (False.elim h) | skip
  rename_i kvs
  unfold dSortedK at h
  cases e : keysI kvs with
  | none => simp only [e] at h; exact h.elim
  | some ks =>
    simp only [e] at h
    obtain ⟨c, h⟩ := if_some h
    obtain ⟨l, xs, rfl, q1, r1⟩ := hx.dct s
    refine ⟨l, xs, ks, rfl, .of q1, r1.keys2.trans (keysI_eq e), c, fun ys p pm up hp => ?_⟩
    have e2 : ys = sortI ks := sort_one up (up_sortI ks) (pm.trans perm_sortI.symm)
    subst e2
    exact okV_newL s h (.of_ints _) p hp
theorem n_sortedK : ∀ a, noEx (dSortedK a) := by
  intro a; unfold dSortedK oD; repeat' (first | trivial | split)
end
end Fs

/-! ### {k: v} -/
namespace Fs
open PySem PySem.Spec PyProof.Rows L2
section
variable {X : Cx} {W : WX} {pos : Pos}
def eDict1 (fk fv : Sx) : Sx := fun env => match fk env with
  | .ok r => (match dKey r.d with
    | some k => (match fv env with
      | .ok (.bo _) => .st
      | .ok q => .ok (.ow (.dct [(k, q.d)]))
      | _ => .st)
    | none => .st)
  | _ => .st
theorem ev_dict1 {ek ev0 : Expr} {fk fv : Sx} (hk : EV X W ek fk) (hv : EV X W ev0 fv) : EV X W (.Dict [some ek] [ev0] pos) (eDict1 fk fv) := (pe_disp (pps_cons hk hv pps_nil) rfl rfl (by simp) (by simp)).imp fun σ H Q z => by
  obtain ⟨F, env, rl, z⟩ := z
  unfold eDict1 at z
  cases e1 : fk env with
  | ex _ => simp only [e1] at z; exact z.elim
  | st => simp only [e1] at z; exact z.elim
  | ok r =>
    simp only [e1] at z
    cases e2 : dKey r.d with
    | none => simp only [e2] at z; exact z.elim
    | some k =>
      simp only [e2] at z
      have main : ∀ q : R, q.keeps → fv env = .ok q → okE X.K X.mg W F H σ Q (.ok (.ow (.dct [(k, q.d)]))) → tDisp [(tE X.K X.mg W fk, tE X.K X.mg W fv)] σ H Q := by
        intro q kp e3 z p hp
        have x0 : Ext F H F (upd H p (.dK [])) := Ext.newO rl.sub hp
        refine ⟨F, env, rl.ext x0, ?_⟩
        rw [e1]
        intro F1 H1 y x1 q1
        refine ⟨F1, env, (rl.ext x0).ext x1, ?_⟩
        rw [e3]
        intro F2 H2 w x2 q2
        obtain ⟨F3, x3, sm, dw⟩ := freeze x2 q2 kp
        have x13 := x1.trans x3
        have hp2 : H2 p = some (.dK []) := x13.hh _ _ upd_same
        have fp : F p = none := rl.sub.free hp
        have f3 : F3 p = none := ext_none x13 upd_same fp
        refine ⟨hp2, [(k, w)], by rw [dKey_v (x3.dv q1.dv) e2]; rfl, by simp, ?_⟩
        have s3 : Same F3 (upd H2 p (.dK (mergeK [] [(k, w)]))) := fun b o h => by
          rw [upd_ne (ne_of_none h f3)]
          exact x13.fh _ _ h
        refine z F3 _ _ ⟨fun b o h => ?_, x13.ff, s3, fun a o h => ?_⟩ ⟨p, rfl, hp, f3, _, upd_same, .cons dw .nil⟩
        · have hb : b ≠ p := ne_of_none h hp
          rw [upd_ne hb]
          exact x13.hh _ _ (by rw [upd_ne hb]; exact h)
        · rcases x13.nw a o h with y | y
          · by_cases hb : a = p
            · subst hb; rw [upd_same] at y; cases y
            · rw [upd_ne hb] at y; exact .inl y
          · exact .inr y
      cases e3 : fv env with
      | ex _ => simp only [e3] at z; exact z.elim
      | st => simp only [e3] at z; exact z.elim
      | ok q =>
        cases q <;> simp only [e3] at z
        · exact main (.cl _) trivial e3 z
        · exact main (.ow _) trivial e3 z
        · exact z.elim
end
end Fs

set_option maxHeartbeats 4000000
namespace Fs
open PySem PySem.Spec PyProof.Rows L2
/-! ### repr: where no other one is being shown -/
section
variable {X : Cx} {K : PySem.W.Frag} {F H : Hp} {Q : VK} {W : WX} {pos : Pos} {mg : Str → Option Value}
def rRepr (K : PySem.W.Frag) : List V → Hp → VK → Prop := fun xs H Q => ∃ (x : V) (p : PyData), xs = [x] ∧ ((Dp K H x p ∧ SeqAt.shaped p = true) ∨ (p = .dict [] ∧ ∃ a, x = .ref a ∧ H a = some (.dK []))) ∧ p.showable = true ∧ p.shown.length ≤ sizeLine ∧ Q (.str p.shown) H
theorem call_reprA (hg : X.A.guards = some []) (hu : X.A.units + 66 < cLine) : CallR X (.builtin "repr") (rRepr X.K) := by
  intro pins s σ H xs us Q I rx h
  obtain ⟨x, p, rfl, hp, hs, hz, q⟩ := h
  cases rx with
  | cons r1 r2 =>
    rename_i u ut
    cases r2
    have fin : ∀ (h' : Heap) (t : Tok) (tk : Nat), (∀ b o, s.heap.get? b = some o → h'.get? b = some o) → EP X pins σ Q (.str p.shown t) { s with heap := h', toks := tk } := fun h' t tk k =>
      ⟨.str p.shown, H, I.kept k, ⟨t, rfl⟩, q⟩
    have fin0 : ∀ (t : Tok) (tk : Nat), EP X pins σ Q (.str p.shown t) { s with toks := tk } := fun t tk => fin s.heap t tk fun _ _ e => e
    rcases hp with ⟨hp, sh⟩ | ⟨rfl, a, rfl, ha⟩
    · obtain ⟨as, rd⟩ := Dp.reads I p x u hp r1
      have hl := SeqAt.canLay_of_shaped sh
      have hd := SeqAt.depth_of_shaped sh
      cases rd with
      | none => exact P.repr_of_none (fin0 _ _)
      | bool b => exact P.repr_of_bool (fin0 _ _)
      | int i t => exact P.repr_of_int (of_decide_eq_true hs) (fin0 _ _)
      | str y t => exact P.repr_of_str (fin0 _ _) hz
      | list h1 h2 h3 h4 => exact repr_of_reads' (.list h1 h2 h3 h4) hs (PyData.noDict_hsm (PyData.hasDict_of_canLay _ hl)) hg (by omega) (fun _ _ e => e) (fun h' t tk k => fin h' t tk k) hz
      | tuple h1 h2 h3 h4 => exact repr_of_reads' (.tuple h1 h2 h3 h4) hs (PyData.noDict_hsm (PyData.hasDict_of_canLay _ hl)) hg (by omega) (fun _ _ e => e) (fun h' t tk k => fin h' t tk k) hz
      | dict h1 h2 h3 h4 h5 => cases hp
    · obtain ⟨z1, z2, vs, kv, od⟩ := I.hok a _ ha
      cases kv
      obtain ⟨o, es, ep, h1, h2, h3, h4, h5, h6⟩ := od
      generalize hes : es.toList = l at h5
      cases h5
      have rd : Reads s.heap (.ref a) (.dict []) (a :: [] ++ []) := .dict h1 h2.1 h3 (by rw [hes]; exact .nil) (by rw [hes]; exact .nil)
      cases r1
      exact repr_of_reads' rd hs (fun _ hm => by
        have : sysModules = a := by simpa using hm
        rw [this] at z2
        simp at z2) hg (by show X.A.units + (1 + 1) < cLine; omega) (fun _ _ e => e) (fun h' t tk k => fin h' t tk k) hz
def dRepr (d : D) : Out R := match d with
  | .dct [] => cD (.str (PyData.shown (.dict [])))
  | _ => match toPy d with
    | some p => if SeqAt.shaped p && p.showable && decide (p.shown.length ≤ 16777216) then cD (.str p.shown) else .st
    | none => .st
theorem o1_repr : Op1 K (fun x => rRepr K [x]) dRepr := by
  intro F H x a Q s hx h
  have gen : ∀ p, toPy a = some p → okV K F H Q (if SeqAt.shaped p && p.showable && decide (p.shown.length ≤ 16777216) then cD (.str p.shown) else .st) → rRepr K [x] H Q := fun p e h => by
    obtain ⟨c, h⟩ := if_some h
    rw [Bool.and_eq_true, Bool.and_eq_true, decide_eq_true_iff] at c
    exact ⟨x, p, rfl, .inl ⟨hx.dp s e, c.1.1⟩, c.1.2, by rw [sizeLine_eq]; exact c.2, okV_cl s h (.str _)⟩
  unfold dRepr at h
  split at h
  · obtain ⟨l, ks, rfl, hl, rk⟩ := hx.dct s
    cases rk
    exact ⟨.ref l, .dict [], rfl, .inr ⟨rfl, l, rfl, hl⟩, rfl, by decide +kernel, okV_cl s h (.str _)⟩
  · cases e : toPy a with
    | none => rw [e] at h; exact h.elim
    | some p => rw [e] at h; exact gen p e h
theorem n_repr : ∀ a, noEx (dRepr a) := by
  intro a; unfold dRepr cD; repeat' (first | trivial | split)
/-- unlike, of texts -/
def dNeS : D → D → Out R
  | .str a, .str b => cB (!decide (a = b))
  | _, _ => .st
theorem o2_neS : Op2 K rNe dNeS := by
  intro F H x y a b Q s hx hy h
  cases a <;> first | exact (False.elim h) | skip
  cases b <;> first | exact (False.elim h) | skip
  rw [hx.str, hy.str]
  refine ⟨rfl, ?_⟩
  have e : ∀ i j : Str, decide (V.str i = V.str j) = decide (i = j) := fun i j => by
    by_cases c : i = j
    · simp [c]
    · simp [c]
  rw [e]
  exact okV_cl s h (.bl _)
theorem n_neS : ∀ a b, noEx (dNeS a b) := by
  intro a b; unfold dNeS; (try unfold cI cB cD oD); repeat' (first | trivial | split)
end

/-! ### defs in which something is shown -/
structure FnK (P : Program) (w : World) (K : PySem.W.Frag) (mg : Str → Option Value) (base : Heap) (k : Nat) (f : Addr) (fd : FuncData) (ps : List Str) (g : List D → Out R) : Prop where
  run : ∀ (A : Around) (outer : List PySem.Env) (s : Shared) (H : Hp) (args : Args) (us : List Value) (vs : List V) (Q : VK) (E : XK), A.guards = some [] → Room k A → Env0 P w K mg base A outer s H → BindsTo s fd args (ps.zip us) → Vals vs us → spG K mg ps.length g vs H Q E →
    codeAny (model P w) A (.call (.ref f) args) (CR (L2.CX P w) outer P w H s Q E) s
section
variable {P : Program} {w : World} {K : PySem.W.Frag} {mg : Str → Option Value} {base : Heap}
theorem fnK_ok {x qual : Str} {st : Stmt} {f : Addr} {fd : FuncData} {N ps : List Str} {k : Nat} {body : Stx} (Fn : Fun K x qual st f fd) (S : FnScope N ps (defScope st)) (hl : ps.length ≤ N.length)
    (hb : ∀ (cdv : Value) (A : Around) (outer : List PySem.Env) (s : Shared) (H : Hp) (E : XK), A.guards = some [] → Room k (A.deeper (envOfC qual (defScope st) s.heap.objs.size f cdv)) →
      SVs (cxOf (L2.CX P w) P w K mg base N qual (defScope st) f cdv A outer s H E) (fun cls d _ H => E cls d H) (defBody st) body) :
    FnK P w K mg base (k + 1) f fd ps (gFun N.length body) := by
  obtain ⟨oc, od, kV, doc, pm, an, cdv, ct, osl, rfl, lk, hcd⟩ := Fn.ex
  refine ⟨fun A outer s H args us vs Q E hg hr e0 hbt r hsp => ?_⟩
  have hlv : vs.length = ps.length := let ⟨_, _, _, e, _⟩ := hsp; e
  have KX : K.In s.heap := e0.mod.kin.keeps fun b o e => (e0.bs b o e).1
  have lim : s.heap.NoLimit := e0.mod.nolimit.keeps fun b o e => (e0.bs b o e).1
  have hkind : ∀ y ∈ ps.zip us, (defScope st).names.lookup y.1 = some .local ∨ ((defScope st).names.lookup y.1 = some .cell ∧ ((cellsFrom (s.heap.objs.size + 1) (defScope st).names []).lookup y.1).isSome = true) := fun ⟨n, v⟩ hy => by
    rcases S.par n (List.of_mem_zip hy).1 with q | q
    · exact .inl q
    · exact .inr ⟨q, PySem.W.cellsFrom_some _ _ _ (.inl q)⟩
  refine codeAny_call_function hr.depth (KX _ _ lk) rfl S.co S.gen rfl (PySem.W.codeRec_of KX hcd) (hbt _ _ _ _ ?_)
  refine wpAny_newFunctionEnv_cells S.kind hkind fun env he s1 xc => ?_
  subst he
  refine ⟨lim.keeps xc.toInCall.keep, codeAny_func ?_⟩
  have ht := hb cdv A outer s H E hg (hr.deeper _)
  have I : L2.Inv (cxOf (L2.CX P w) P w K mg base N qual (defScope st) f cdv A outer s H E) [] (L2.start N vs) H s1 := inv_start S hr.hd e0 hlv r xc
  have hq : tS K mg (fun cls d _ H => E cls d H) body { nx := fun _ H' => Q .non H', rt := Q } (L2.start N vs) H := by
    obtain ⟨F', ds, sf, e, rs, z⟩ := hsp
    refine ⟨F', H, F', _, srel0 sf rs (by omega), ?_⟩
    unfold gFun outS at z
    cases e2 : body (env0 N.length ds) <;> simp only [e2] at z
    · exact fun F1 H1 σ1 r1 => z F1 H1 .non r1.ext .non
    · exact fun F1 H1 v x q => z F1 H1 v x q
    · exact fun F1 H1 σ1 cls r1 m => z F1 H1 cls r1.ext m
  refine wpAny_mono (ht.run [] s1 (L2.start N vs) H _ I hq) (fun fl s' hs => ?_) fun e s' hs => hs
  have fin : ∀ {σ' : Sg} {H' : Hp} {v : V} {u : Value}, L2.Inv (cxOf (L2.CX P w) P w K mg base N qual (defScope st) f cdv A outer s H E) [] σ' H' s' → RelV v u → Q v H' → CE outer P w H s Q u s' :=
    fun {σ' H' v u} J rv q => ⟨v, H', J.os, J.bare, J.base, J.hok, rv, q⟩
  cases fl with
  | ret u =>
    obtain ⟨v, σ', H', J, rv, q⟩ := hs
    exact fin J rv q
  | next =>
    obtain ⟨σ', H', J, q⟩ := hs
    exact fin (v := V.non) (u := Value.none) J rfl q
  | brk =>
    obtain ⟨_, _, _, q⟩ := hs
    exact False.elim q
  | cont =>
    obtain ⟨_, _, _, q⟩ := hs
    exact False.elim q
end
section
variable {X : Cx} {K : PySem.W.Frag} {mg : Str → Option Value} {W : WX} {pos : Pos}
theorem run_fnK {pins : List (Addr × Obj)} {σ : Sg} {H : Hp} {s : Shared} {Q : VK} {us : List Value} {vs : List V} {k : Nat} {f : Addr} {fd : FuncData} {ps : List Str} {g : List D → Out R} {E : XK} (Fn : FnK X.prog X.w X.K X.mg X.base k f fd ps g) (hg : X.A.guards = some []) (hr : Room k X.A)
    (hb : Binds X.K fd ps []) (hx : PassesAt (L2.CX X.prog X.w) X σ E) (I : L2.Inv X pins σ H s) (r : Vals vs us) (h : spG X.K X.mg ps.length g vs H Q E) :
    wpAny (model X.prog X.w) X.A (call (.ref f) us) (EP X pins σ Q) X.xe s := by
  have hlv : vs.length = ps.length := let ⟨_, _, _, e, _⟩ := h; e
  have hlu : us.length = ps.length := by rw [← r.length]; exact hlv
  have b := hb s us I.kIn (by rw [List.append_nil]; exact hlu)
  rw [List.append_nil] at b
  refine wpAny_call (codeAny_mono (Fn.run X.A X.stack s H ⟨us, []⟩ us vs Q E hg hr I.env0 b r h) fun r s' hq => ?_)
  cases r with
  | error e => exact hx pins H s e s' I hq
  | ok fl =>
    cases fl with
    | ret u => exact I.after hq
    | next => exact False.elim hq
    | brk => exact False.elim hq
    | cont => exact False.elim hq
theorem ev_callK {k : Nat} {f : Addr} {fd : FuncData} {ps : List Str} {g : List D → Out R} {x : Str} {p : Pos} {e : Expr} {es : List Expr} {fs : List Sx} (Fn : FnK X.prog X.w X.K X.mg X.base k f fd ps g) (hgd : X.A.guards = some []) (hr : Room k X.A) (hg : Gl X x) (hm : X.mg x = some (.ref f)) (hk : PySem.W.keepIn X.K (.ref f) = true) (hb : Binds X.K fd ps [])
    (tk : Takes X W) (ha : AV X W (e :: es) fs) (hl : fs.length = ps.length := by rfl) (hdb : (x == ("__debug__" : Str)) = false := by decide) (he : starEach (e :: es) X.env = (false, eval e X.env) :: starEach es X.env := by rfl) (hpl : (backTo pos (starEach es X.env)).any (·.1) = false := by rfl) :
    EV X W (.Call (.Name x p) (e :: es) [] pos) (eCall g fs) := by
  have pe : PE X (.Call (.Name x p) (e :: es) [] pos) (tCallS (spG X.K X.mg ps.length g) (WE W) (tAs X.K X.mg W fs)) := by
    refine ⟨fun pins s σ H Q I h => ?_⟩
    refine wpAny_Call_Name_kw (ld_glob I hg hm ?_ hdb)
    refine PySem.W.callWith_K (h₀ := X.base) I.ok.mod.kin hk (thn (ha.run pos pins s σ H _ I h) fun us s1 ⟨vs, H1, I1, r, q⟩ => ⟨I1.kIn, ?_⟩) he hpl
    exact run_fnK (E := WE W σ) Fn hgd hr hb (passAt tk σ) I1 r q
  refine pe.imp fun σ H Q z => ?_
  obtain ⟨F, env, rl, z⟩ := z
  refine ⟨F, env, rl, ?_⟩
  unfold eCall at z
  cases e2 : evArgs fs env with
  | ok ds =>
    rw [e2] at z
    intro F1 H1 vs x rs
    refine ⟨F1, ds, x.fh, by rw [rs.len, evArgs_len e2]; exact hl, rs, ?_⟩
    have z' : okE X.K X.mg W F H σ Q (g ds) := z
    cases e3 : g ds with
    | ok r => rw [e3] at z'; exact fun F2 H2 v x2 q => z' F2 H2 v (x.trans x2) (q.back x.hh)
    | ex c => rw [e3] at z'; exact fun F2 H2 cls x2 m => z' F2 H2 cls (x.trans x2) m
    | st => rw [e3] at z'; exact z'
  | ex c => rw [e2] at z; exact z
  | st => rw [e2] at z; exact z
end
section
variable {P : Program} {w : World} {K : PySem.W.Frag} {mg mb : Str → Option Value}
/-- what the abstract heap at the top holds: the script, unless the module has it -/
def topH (K : PySem.W.Frag) (a : Addr) (o : Obj) (ns : List Int) : Hp := fun b => if b = a ∧ K.lookup a = none then some (.frz o (.lst (ns.map V.int))) else none
theorem topH_some {a b : Addr} {o : Obj} {ns : List Int} {u : HO} (h : topH K a o ns b = some u) : b = a ∧ K.lookup a = none ∧ u = .frz o (.lst (ns.map V.int)) := by
  unfold topH at h
  split at h
  · rename_i c
    cases h
    exact ⟨c.1, c.2, rfl⟩
  · cases h
theorem topH_none {a b : Addr} {o : Obj} {ns : List Int} (h : ¬ (b = a ∧ K.lookup a = none)) : topH K a o ns b = none := if_neg h
theorem top_run {k : Nat} {fa a : Addr} {fd : FuncData} {x : Str} {g : List D → Out R} {s : Shared} {vs : List Value} {ns : List Int} (KX : K.In s.heap) (hns : s.heap.Ns mainGlobals mg) (hb : s.heap.Ns builtinsNs mb) (hbb : ∀ x : Str, x ≠ "__name__" → mb x = bootBuiltins x) (hlim : s.heap.NoLimit) (hg : s.gens = #[])
    (ha : s.heap.get? a = some { cls := .type "list", data := .seq vs.toArray }) (hi : IntsAre vs ns) (hl : ns.length ≤ sizeLine) (hr : Room k callerA)
    (F : ∀ base : Heap, K.In base → base.Ns mainGlobals mg → FnK P w K mg base k fa fd [x] g) (hbind : ∀ (s : Shared) (u : Value), BindsTo s fd ⟨[u], []⟩ [(x, u)]) (hgl : g [.scr ns] = .ok (.cl (.bl true))) :
    codeAny (model P w) callerA (.call (.ref fa) ⟨[.ref a], []⟩) (fun r s' => r = .ok (.ret (.bool true)) ∧ OldK s.heap s'.heap ∧ s'.os = s.os ∧ AllBare s'.gens) s := by
  have rv := vals_ints hi
  have lv := hi.length
  generalize hH : topH K a { cls := .type "list", data := .seq vs.toArray } ns = H
  have hsome : ∀ {b u}, H b = some u → b = a ∧ K.lookup a = none ∧ u = .frz { cls := .type "list", data := .seq vs.toArray } (.lst (ns.map V.int)) := fun h => by rw [← hH] at h; exact topH_some h
  have hok : HOk P w H s.heap := fun b u h => by
    obtain ⟨rfl, _, rfl⟩ := hsome h
    exact ⟨ha, by rw [List.length_map]; exact hl, vs, _, rv, ha⟩
  have at_ : ∀ {b : Addr} {o : Obj}, s.heap.get? b = some o → H b = none → (hidT s.heap H).get? b = some o := fun e n => hidT_get e n
  have free : ∀ {b : Addr} {o : Obj} {es : Array DictEntry} {ep : Nat}, s.heap.get? b = some o → o.data = .dict es ep → H b = none := fun {b o es ep} e d => by
    cases q : H b with
    | none => rfl
    | some u =>
      obtain ⟨rfl, _, _⟩ := hsome q
      rw [ha] at e
      cases e
      cases d
  have nsK : ∀ {b : Addr} {m : Str → Option Value}, s.heap.Ns b m → (hidT s.heap H).Ns b m := fun ⟨o, es, ep, e, d, r⟩ => ⟨o, es, ep, at_ e (free e d), d, r⟩
  have kin : K.In (hidT s.heap H) := fun b o e => at_ (KX b o e) (by
    cases q : H b with
    | none => rfl
    | some u =>
      obtain ⟨rfl, n, _⟩ := hsome q
      rw [n] at e
      cases e)
  have hM : Mod K mg (hidT s.heap H) := ⟨kin, nsK hns, ⟨mb, nsK hb, hbb⟩, let ⟨mc, h1, h2⟩ := hlim; ⟨mc, nsK h1, h2⟩⟩
  have e0 : Env0 P w K mg (hidT s.heap H) callerA [] s H := ⟨rfl, hM, fun b o e => of_hidT e, Nat.le_of_eq (hidT_size _ _), trivial, fun b hb => absurd (show b ∈ ([] : List Addr) from hb) (by simp), hok, .of_eq hg⟩
  have hS : SqL K H a (ns.map V.int) := by
    cases q : K.lookup a with
    | none => exact .inl (.inr ⟨_, by rw [← hH]; exact if_pos ⟨rfl, q⟩⟩)
    | some o =>
      have e := KX a o q
      rw [ha] at e
      cases e
      exact .inr ⟨_, vs.toArray, _, q, rfl, rfl, rfl, by rw [List.size_toArray, lv]; exact hl, by simpa using rv⟩
  refine codeAny_mono ((F _ kin (nsK hns)).run callerA [] s H ⟨[.ref a], []⟩ [.ref a] [.ref a] (fun v _ => v = .bl true) (fun _ _ _ => False) rfl hr e0 (hbind s (.ref a)) (.cons rfl .nil) ⟨H, [.scr ns], .refl H, rfl, .cons (.scr hS) .nil, ?_⟩) fun r s' h => ?_
  · rw [hgl]
    intro F' H' v x r
    cases r
    rfl
  · cases r with
    | error e =>
      obtain ⟨_, _, _, _, _, _, _, _, _, _, _, _, z⟩ := h
      exact z.elim
    | ok fl =>
      cases fl with
      | next => exact False.elim h
      | brk => exact False.elim h
      | cont => exact False.elim h
      | ret u =>
        obtain ⟨v, H', os, bare, un, hok', r', q⟩ := h
        have q' : v = .bl true := q
        subst q'
        obtain rfl : u = Value.bool true := r'
        refine ⟨rfl, OldK.of_keep fun b o e => ?_, os, bare⟩
        cases q : H b with
        | none => exact un.keep b o e q (fun z => absurd (show b ∈ ([] : List Addr) from z) (by simp)) (by simp)
        | some u =>
          obtain ⟨rfl, _, rfl⟩ := hsome q
          obtain ⟨e1, _⟩ := hok' b _ (un.frzs b _ _ q)
          rw [ha] at e
          cases e
          exact e1
open PySem.W in
theorem walk_fnK {l : OpenLaw} {k : Nat} {q : Program} {loose : List Str} {XP : (Str → Option Value) → Heap → Prop} {YP : World → Heap → Prop} {d : DefRec} {K : Params → PySem.W.Frag} {x : Str} {g : List D → Out R}
    (hn : l.most = some 63) (hdf : d.params.defaults = []) (hr : Room k callerA) (hY : ∀ (w : World) (h : Heap), YP w h → (K w.params).In h)
    (F : ∀ (w : World) (mg : Str → Option Value) (fa : Addr) (h : Heap), (K w.params).In h → h.Ns mainGlobals mg → mg d.name = some (.ref fa) →
      ∃ fd : FuncData, (∀ (s : Shared) (u : Value), BindsTo s fd ⟨[u], []⟩ [(x, u)]) ∧
        ∀ base : Heap, (K w.params).In base → base.Ns mainGlobals mg → FnK l.prog w (K w.params) mg base k fa fd [x] g)
    (hg : ∀ ns : List Int, ns.length ≤ 63 → g [.scr ns] = .ok (.cl (.bl true))) :
    WalkO q loose XP YP l.row.toRowW d [] (fun f vs => PySem.call f vs) := by
  refine Att.attach_call hn hdf fun w s₀ s₁ mg mb fa o pm cd doc a vs ns G Y ho hd hcd hmg hobj hints hlen hgens => ?_
  have KX := hY w _ Y
  obtain ⟨fd, hb, hF⟩ := F w mg fa _ KX G.T.g hmg
  exact top_run KX G.T.g G.T.b G.T.builtins G.T.nolimit hgens hobj hints (Nat.le_trans hlen (by decide)) hr hF hb (hg ns hlen)
end
end Fs

set_option maxHeartbeats 4000000
namespace Fs
open PySem PySem.Spec PyProof.Rows L2
open Sem (wp)
/-! ### enumerate of a list or of a tuple -/
set_option maxHeartbeats 4000000 in
theorem meets_enum1 {v : Value} {o : Obj} {H : Heap → Prop} (B : Begins v o H) :
    Meets (Builtin.«enumerate.__new__» ⟨[.type "enumerate", v], []⟩) (fun _ R s => H s.heap ∧
      R (.ok (.ret (.ref (s.heap.push o).objs.size))) { s with heap := (s.heap.push o).push { cls := .type "enumerate", data := .fields #[.none, .bool false, .ref s.heap.objs.size, rawInt 0, .none, .none] } }) :=
  .of_wp fun prog w A R s h => by
    obtain ⟨hp, g, d, tk, os⟩ := s; obtain ⟨h1, h⟩ := h
    have hsub := sub_enumerate
    have q1 : ∀ {A' : Around} {E : Value → Shared → Prop} {Q : Value → Shared → Prop}, Q (.ref hp.objs.size) ⟨hp.push o, g, d, tk, os⟩ → wpAny (model prog w) A' (pyIter v) Q E ⟨hp, g, d, tk, os⟩ :=
      fun q => B.iter prog w _ _ ⟨hp, g, d, tk, os⟩ _ h1 q
    wp_walk using q1
    refine wpAny_stack_any fun st => wpAny_pure ?_
    split
    · rename_i c _ _ _ _ _
      cases (c == Value.type "enumerate")
      · wp_walk using q1
        exact ⟨_, rfl, h⟩
      · wp_walk using q1
        exact ⟨_, rfl, h⟩
    · wp_walk using q1
      exact ⟨_, rfl, h⟩
theorem enum_begins1 {prog : Program} {w : World} {A : Around} {E : Value → Shared → Prop} {s : Shared} {v : Value} {o : Obj} {H : Heap → Prop} {Q : Value → Shared → Prop} (B : Begins v o H) (h1 : H s.heap)
    (h : ∀ h', IsEnum h' (s.heap.objs.size + 1) s.heap.objs.size 0 .none → h'.get? s.heap.objs.size = some o → h'.objs.size = s.heap.objs.size + 2 →
      (∀ b o, s.heap.get? b = some o → h'.get? b = some o) → Q (.ref (s.heap.objs.size + 1)) { s with heap := h' }) :
    wpAny (model prog w) A (call (.type "enumerate") [v]) Q E s := by
  refine callType_new PySem.F.called_enumerate (by decide) (PySem.F.typeCall_enumerate_1 _) (PySem.F.newCall_enumerate_1 _) (fun obj => PySem.F.args_object_init_2 obj _) PySem.F.entry_enumerate_new
    (meets_enum1 B) ⟨h1, ?_⟩
  have hz : (s.heap.push o).objs.size = s.heap.objs.size + 1 := Heap.size_push ..
  show _ ∧ _
  rw [hz]
  have he : IsEnum ((s.heap.push o).push { cls := .type "enumerate", data := .fields #[.none, .bool false, .ref s.heap.objs.size, rawInt 0, .none, .none] }) (s.heap.objs.size + 1) s.heap.objs.size 0 .none := by
    have := Heap.get?_push_size (s.heap.push o) (o := { cls := .type "enumerate", data := .fields #[.none, .bool false, .ref s.heap.objs.size, rawInt 0, .none, .none] }) rfl
    rw [hz] at this; exact this
  refine ⟨⟨_, he, rfl⟩, h _ he (Heap.get?_push_of_some _ (Heap.get?_push_size _ B.free)) (by rw [Heap.size_push, hz]) fun b o x => Heap.get?_push_of_some _ (Heap.get?_push_of_some _ x)⟩
def ItEn (K : PySem.W.Frag) (t : Bool) (a : Addr) (n : Nat) : It :=
  ⟨fun i H => i < n ∧ ∃ xs : List V, SqA K t H a xs ∧ xs.length = n,
    fun i H v H' => ∃ T ob x, v = .ref T ∧ ob.dict = none ∧ H T = none ∧ H' = upd H T (.frz ob (.tup [.int (i : Int), x])) ∧ ∀ xs, SqA K t H a xs → xs[i]? = some x,
    fun i H => n ≤ i ∧ ∃ xs : List V, SqA K t H a xs ∧ xs.length = n⟩
def EnAt (t : Bool) (a p n : Nat) (i : Nat) (h : Heap) : Prop := i ≤ n ∧ a < p ∧ (∃ old, IsEnum h (p + 1) p (i : Int) old) ∧ AtA t h p a i
theorem mem2 {c p : Nat} : c ∈ [p + 1, p] ↔ c = p + 1 ∨ c = p := by simp
theorem lt2 {c p q : Nat} (h : c ∈ [p + 1, p]) (hq : p + 1 < q) : c < q := by
  rcases mem2.mp h with rfl | rfl <;> omega
theorem le2 {c q : Nat} (h : c ∈ [q + 1, q]) : q ≤ c := by
  rcases mem2.mp h with rfl | rfl <;> omega
theorem turn_enA {P : Program} {w : World} {K : PySem.W.Frag} {elts : List Expr} {kk : Nat} {tpos : Pos} {t : Bool} {a p n : Nat} :
    Turn P w K (.Tuple elts kk tpos) (ItEn K t a n) [p + 1, p] (p + 1) (EnAt t a p n) where
  mem := List.mem_cons_self
  obj := fun i h st c hc => by
    obtain ⟨_, _, ⟨old, he⟩, h1⟩ := st
    rcases mem2.mp hc with rfl | rfl
    · exact ⟨_, he, fun v q => nomatch q⟩
    · exact h1.obj
  keep := fun i h h' st k => by
    obtain ⟨c1, c2, ⟨old, he⟩, h1⟩ := st
    exact ⟨c1, c2, ⟨old, k _ (mem2.mpr (.inl rfl)) _ he⟩, h1.keep (k _ (mem2.mpr (.inr rfl)))⟩
  item := by
    intro X hP hw hK hc i pins s σ H E I hf st hg
    subst hP hw hK
    obtain ⟨c1, c2, ⟨old, he⟩, h1⟩ := st
    obtain ⟨hi, xs, qx, hn⟩ := hg
    obtain ⟨its, rv, p1, _⟩ := sqA_get I qx
    have l1 := rv.length
    have hh : X.A.in1.handled = none := by simp [I.ok.hd hc]
    refine wpAny_pyNext_enum_itemD (draws_A t hh p a (ne_A (by omega)) its.toArray) he ⟨h1, p1⟩ (by simp; omega) (ne_A (by omega)) (out2 (by omega) (by omega)) fun v1 h' tk y1 ho s1 hT hsz hk => ?_
    have hel : p + 1 < s.heap.objs.size := Heap.lt_size he
    obtain ⟨x, ex⟩ : ∃ x, xs[i]? = some x := ⟨_, List.getElem?_eq_getElem (by omega)⟩
    obtain ⟨u1, e1, r1⟩ := rv.get ex
    have e1' : v1 = u1 := by
      have : its[i]? = some v1 := by simpa using y1
      rw [e1] at this; cases this; rfl
    subst e1'
    refine ⟨_, rfl, wpAny_letOwnedTupleGo_enum (s := { s with heap := h', toks := tk + 1 }) ho fun h'' z'' sb => ?_⟩
    have hT2 : h''.get? s.heap.objs.size = some { cls := .type "tuple", data := .seq #[.int i tk, v1] } := (sb.2 _ (Nat.ne_of_gt hel)).trans hT
    have keep : ∀ c o, c ∉ [p + 1, p] → s.heap.get? c = some o → h''.get? c = some o := fun c o hb q =>
      (sb.2 c fun z => hb (mem2.mpr (.inl z))).trans (hk c o (fun z => hb (mem2.mpr (.inl z))) (fun z => hb (mem2.mpr (.inr z))) q)
    have new : ObjOk X.prog X.w (upd H s.heap.objs.size (.frz { cls := .type "tuple", data := .seq #[.int i tk, v1] } (.tup [.int (i : Int), x]))) h'' s.heap.objs.size (.frz { cls := .type "tuple", data := .seq #[.int i tk, v1] } (.tup [.int (i : Int), x])) := ⟨hT2, by show 2 ≤ sizeLine; decide, [.int i tk, v1], .cons ⟨tk, rfl⟩ (.cons r1 .nil), ⟨_, hT2, rfl, _, rfl⟩⟩
    have I1 := I.turnedNew (t' := tk + 1) keep hf (Nat.le_refl _) new
    refine ⟨.ref s.heap.objs.size, _, I1, rfl, ⟨_, _, x, rfl, rfl, I.hok.fresh (Nat.le_refl _), rfl, fun l hl => by rw [sqA_one I hl qx]; exact ex⟩, ⟨by omega, c2, ⟨_, by
      have z2 : IsEnum h'' (p + 1) p ((i : Int) + 1) v1 := z''
      have e : ((i + 1 : Nat) : Int) = (i : Int) + 1 := by omega
      rw [e]; exact z2⟩, ?_⟩, fun c hcm => ?_⟩
    · exact s1.1.keep fun o q => (sb.2 _ (ne_A (by omega))).trans q
    · have hlt : c < s.heap.objs.size := lt2 hcm hel
      rw [upd_ne (Nat.ne_of_lt hlt)]
      exact (hf c hcm).1
  done := by
    intro X hP hw hK hc i pins s σ H E I hf st hg
    subst hP hw hK
    obtain ⟨c1, c2, ⟨old, he⟩, h1⟩ := st
    obtain ⟨hi, xs, qx, hn⟩ := hg
    obtain ⟨its, rv, p1, _⟩ := sqA_get I qx
    have l1 := rv.length
    have hh : X.A.in1.handled = none := by simp [I.ok.hd hc]
    have hin : i = its.toArray.size := by simp; omega
    refine wpAny_pyNext_enum_endD (draws_A t hh p a (ne_A (by omega)) its.toArray) he (by rw [← hin]; exact ⟨h1, p1⟩) fun h' hk => ⟨rfl, ?_⟩
    exact I.turnedL (t' := s.toks) (fun c o hb q => hk c o (fun z => hb (mem2.mpr (.inr z))) q) hf
  self := fun A i s Q E st h => by
    obtain ⟨_, _, ⟨old, he⟩, _⟩ := st
    exact wpAny_pyIter_enum he h
def iEnX (K : PySem.W.Frag) (ta : TA) : TI := fun σ H R => ta σ H fun vs H1 => ∃ (a : Addr) (t : Bool) (xs : List V), vs = [.ref a] ∧ SqA K t H1 a xs ∧ R (ItEn K t a xs.length) H1
theorem pi_enA {X : Cx} {e : Expr} {ta : TA} {p pos tpos : Pos} {elts : List Expr} {kk : Nat} (hg : Gl X "enumerate") (hm : X.mg "enumerate" = none) (ha : PA X [e] ta)
    (hs : starEach [e] X.env = [(false, eval e X.env)] := by rfl) (hpl : (backTo pos (starEach [] X.env)).any (·.1) = false := by rfl) :
    PI X (.Tuple elts kk tpos) (.Call (.Name "enumerate" p) [e] [] pos) (iEnX X.K ta) := by
  refine ⟨fun pins s σ H R I h => Call_ (ld_blt I hg hm PyProof.Rows.boot_enumerate (PyProof.Rows.callWith_type1 (thn (ha.run pos pins s σ H _ I h) fun us s1 ⟨vs, H1, I1, r1, q1⟩ => ?_) hs hpl))⟩
  obtain ⟨a, t, xs, rfl, qx, q⟩ := q1
  obtain ⟨u1, rfl, e1⟩ := Vals.one r1
  obtain rfl : u1 = Value.ref a := e1
  obtain ⟨its, rv, p1, la⟩ := sqA_get I1 qx
  refine enum_begins1 (begins_A t a its.toArray) p1 fun h' he g1 hsz hk => wpAny_pyIter_enum he ?_
  have fresh2 : ∀ c, c ∈ [s1.heap.objs.size + 1, s1.heap.objs.size] → FpOk X pins H1 c := fun c hcm => by
    have hle : s1.heap.objs.size ≤ c := le2 hcm
    exact I1.fpOk hle (I1.hok.fresh hle)
  exact ⟨_, _, _, _, H1, rfl, I1.kept (t' := s1.toks) hk, turn_enA (a := a) (p := s1.heap.objs.size), ⟨Nat.zero_le _, la, ⟨_, he⟩, atA_new t g1⟩, fresh2, q⟩
/-! ### enumerate by data -/
def enumD (ds : List D) : List D := zipD (rangeD 0 ds.length) ds
def iEn (fs : List Sx) : Ix := fun env => match evArgs fs env with
  | .ok [d] => (match seqD d with
    | some ds => if ds.length ≤ 16777216 then .ok (true, enumD ds) else .st
    | _ => .st)
  | .ok _ => .st
  | .ex c => .ex c
  | .st => .st
section
variable {X : Cx} {W : WX} {pos : Pos} {K : PySem.W.Frag}
theorem itd_enum {F G : Hp} {t : Bool} {a : Addr} {xs : List V} {ds : List D} (h1 : SqA K t G a xs) (r1 : DRs K F xs ds) (hz : ds.length ≤ 16777216) : ItD K (ItEn K t a xs.length) G F (enumD ds) := by
  have hl : (enumD ds).length = xs.length := by
    unfold enumD zipD rangeD
    rw [List.length_zipWith, List.length_map, List.length_range, Nat.min_self, r1.len]
  refine ⟨?_, fun i H s hi => ?_, fun i F1 H x H' s sf fh y dd hd => ?_, fun i H s hi => ?_⟩
  · rw [hl, r1.len]; exact hz
  · rw [hl] at hi
    exact ⟨hi, xs, sqA_same s h1, rfl⟩
  · obtain ⟨T, ob, q, rfl, hn, hT, rfl, y1⟩ := y
    obtain ⟨d, e1, rd⟩ := r1.get' (y1 xs (sqA_same s h1))
    have hd' : dd = .tup [.int (i : Int), d] := by
      unfold enumD zipD rangeD at hd
      have hi : i < ds.length := (List.getElem?_eq_some_iff.mp e1).1
      rw [List.getElem?_zipWith, e1, List.getElem?_map, List.getElem?_range hi] at hd
      simp at hd
      exact hd.symm
    subst hd'
    have x := Ext.new (o := .frz ob (.tup [.int (i : Int), q])) fh hT
    exact ⟨_, x, .tup (.new hn) (.cons (.int _) (.cons ((rd.mono sf).mono x.ff) .nil))⟩
  · rw [hl] at hi
    exact ⟨hi, xs, sqA_same s h1, rfl⟩
theorem iv_enum {e : Expr} {fs : List Sx} {p tpos : Pos} {elts : List Expr} {kk : Nat} (hc : X.calm = true) (hg : Gl X "enumerate") (hm : X.mg "enumerate" = none) (ha : AV X W [e] fs)
    (hs : starEach [e] X.env = [(false, eval e X.env)] := by rfl) (hpl : (backTo pos (starEach [] X.env)).any (·.1) = false := by rfl) :
    IV X W (.Tuple elts kk tpos) (.Call (.Name "enumerate" p) [e] [] pos) (iEn fs) := (pi_enA hg hm ha hs hpl).imp fun σ H R z => by
  obtain ⟨F, env, rl, z⟩ := z
  refine ⟨F, env, rl, ?_⟩
  unfold iEn at z
  cases ef : evArgs fs env with
  | ex c => simp only [ef] at z; exact z
  | st => simp only [ef] at z; exact z
  | ok ds =>
    simp only [ef] at z
    match ds, z with
    | [], z => exact z.elim
    | _ :: _ :: _, z => exact z.elim
    | [d], z =>
      simp only [] at z
      cases e1 : seqD d with
      | none => simp only [e1] at z; exact z.elim
      | some as =>
        simp only [e1] at z
        by_cases c : as.length ≤ 16777216
        · simp only [if_pos c] at z
          intro F1 H1 vs x rs
          cases rs with
          | cons q1 rs =>
            cases rs
            obtain ⟨a, t, xs, rfl, s1, r1⟩ := seqD_A q1 e1
            exact ⟨a, t, xs, rfl, sqA_same x.fh s1, z F1 H1 F1 _ x x.fh (fun _ => rfl) (itd_enum s1 r1 c)⟩
        · simp only [if_neg c] at z
          exact z.elim
end
end Fs

set_option maxHeartbeats 4000000
namespace Fs
open PySem PySem.Spec PyProof.Rows L2
section
variable {X : Cx} {K : PySem.W.Frag} {F H : Hp} {Q : VK} {W : WX} {pos : Pos} {mg : Str → Option Value}
/-! ### t.index(x) -/
theorem sqN_is {pins : List (Addr × Obj)} {σ : Sg} {H : Hp} {s : Shared} {a : Addr} {xs : List V} (I : L2.Inv X pins σ H s) (h : SqN X.K H a xs) : s.TypeIs (.ref a) "tuple" ∧ ∀ b, Value.ref a = .ref b → ∃ ob, s.heap.get? b = some ob ∧ ob.dict = none := by
  rcases h with ⟨o, n, h⟩ | ⟨o, _, _, hk, hc, hd, _⟩
  · obtain ⟨e, _, _, _, ob, e2, c, _⟩ := I.hok a _ h
    rw [e] at e2
    cases e2
    exact ⟨⟨o, e, c⟩, fun b q => by cases q; exact ⟨o, e, n⟩⟩
  · exact ⟨⟨o, I.kIn a o hk, hc⟩, fun b q => by cases q; exact ⟨o, I.kIn _ o hk, hd⟩⟩
def tBMT (K : PySem.W.Frag) (r : V → List V → Hp → VK → Prop) (to : TE) (t : TA) : TE := fun σ H Q => to σ H fun x H1 => (∃ a xs, x = .ref a ∧ SqN K H1 a xs) ∧ t σ H1 fun xs H2 => r x xs H2 Q
theorem pe_bmT {o e : Expr} {es : List Expr} {to : TE} {t : TA} {name : Str} {apos cpos : Pos} {id : String} {r : V → List V → Hp → VK → Prop} (slot : PySem.Slot "tuple" name id) (hty : typeOf (.builtin id) = pure (.type "method_descriptor")) (hm : MtR X id r) (ho : PE X o to) (ha : PA X (e :: es) t)
    (hbase : attributeBase o name X.env (eval o X.env) = eval o X.env := by rfl)
    (hfew : ((backTo cpos (starEach (e :: es) X.env)).all (fun x => !x.1) && (backToKw cpos (keywordEach [] X.env)).all (fun x => x.1.isSome)
      && decide ((e :: es).length + ([] : List Keyword).length + (if ([] : List Keyword).isEmpty then 0 else 1) < 30)) = true := by rfl)
    (hline : (apos.endLine == cpos.line) = true := by rfl) (hs : starEach (e :: es) X.env = (false, eval e X.env) :: starEach es X.env := by rfl) (hplain : (backTo cpos (starEach es X.env)).any (·.1) = false := by rfl) :
    PE X (.Call (.Attribute o name apos) (e :: es) [] cpos) (tBMT X.K r to t) := by
  refine ⟨fun pins s σ H Q I h => ?_⟩
  refine wpAny_Call_method_late hbase hfew hline rfl (thn (ho.run pins s σ H _ I h) fun v s1 ⟨x, H1, I1, r1, ⟨a, xs, ex, ty⟩, q1⟩ => ?_)
  subst ex
  obtain rfl : v = Value.ref a := r1
  obtain ⟨h1, h2⟩ := sqN_is I1 ty
  refine ⟨"tuple", id, PySem.F.plainAttrs_tuple, slot, hty, h1, h2, ?_⟩
  have hA := ha.run cpos pins s1 σ H1 _ I1 q1
  rw [hs] at hA ⊢
  refine Calls.callWith_builtin (by show (false || (backTo cpos (starEach es X.env)).any (·.1)) = false; rw [hplain] <;> rfl) (Calls.evalArgs_plain ?_)
  exact thn hA fun us s2 ⟨vs, H2, I2, r2, q2⟩ => hm pins s2 σ H2 (.ref a) vs _ us Q I2 rfl r2 q2
def rIndexT (K : PySem.W.Frag) : V → List V → Hp → VK → Prop := fun x xs H Q => ∃ (a : Addr) (y : V) (d : PyData) (ds : List PyData) (j : Nat) (z : PyData), x = V.ref a ∧ xs = [y] ∧ Dp K H (V.ref a) (.tuple ds) ∧ Dp K H y d ∧
  SeqAt.shaped (.tuple ds) = true ∧ SeqAt.shaped d = true ∧ ds[j]? = some z ∧ PyData.eqv z d = true ∧ (∀ (m : Nat) (z' : PyData), m < j → ds[m]? = some z' → PyData.eqv z' d = false) ∧ Q (.int (j : Nat)) H
theorem mt_indexT (hu : X.A.units + 65 < cLine) : MtR X "tuple.index" (rIndexT X.K) := by
  intro pins s σ H x xs v us Q I rx rxs h
  obtain ⟨a, y, d, ds, j, z, rfl, rfl, hl, hy, sl, sd, hz, hzj, hno, q⟩ := h
  cases rx
  cases rxs with
  | cons ry rt =>
    rename_i uy ut
    cases rt
    obtain ⟨bs, r1⟩ := Dp.reads I d y uy hy ry
    have hxs : PyData.canLayAll0 ds = true := SeqAt.canLay_of_shaped sl
    have hroom : X.A.units + 1 + min (PyData.depthAll ds) d.depth < cLine := room_in_shaped sd hu
    cases hl with
    | tup hs ha =>
      obtain ⟨its, rv, ⟨⟨cls, dd, data, sls⟩, ho, hc, n, hdt⟩, hlen⟩ := I.tuple hs
      simp only at hc hdt
      subst hc hdt
      obtain ⟨as, h4⟩ := Dp.readsAll I ds _ its ha rv
      have hn : its.length = ds.length := SeqAt.ReadsAll.length ds its as h4
      have hmap : its.map (SeqAt.readOf s.heap) = ds := SeqAt.readsAll_map ds its as hxs h4
      obtain ⟨hjd, _⟩ := List.getElem?_eq_some_iff.mp hz
      have hjl : j < its.length := by omega
      have hj : j < its.toArray.size := by simpa using hjl
      have at_ : ∀ (m : Nat) (hm : m < its.toArray.size) (z' : PyData), ds[m]? = some z' → SeqAt.readOf s.heap its.toArray[m] = z' := by
        intro m hm z' hz'
        have hml : m < its.length := by simpa using hm
        rw [← hmap, List.getElem?_map, List.getElem?_eq_getElem hml] at hz'
        have e1 : SeqAt.readOf s.heap its[m] = z' := Option.some.inj (show some (SeqAt.readOf s.heap its[m]) = some z' from hz')
        simpa using e1
      have eqs := SeqAt.items_eqAt (A := X.A) (vs := its.toArray) (show ReadsAll s.heap its.toArray.toList ds as from h4) r1 hxs (SeqAt.canLay_of_shaped sd) hroom
      refine call_meets PySem.F.slot_tuple_index ⟨_, ho, rfl⟩ PySem.F.entry_tuple_index (PySem.F.args_tuple_index_2 _ _)
        (SeqAt.tuple_index2_found a its.toArray n dd sls uy (fun m => if h : m < its.toArray.size then PyData.eqv (SeqAt.readOf s.heap its.toArray[m]) d else false) j hj (Nat.zero_le _) hj ?_ ?_) ⟨ho, ?_, ?_⟩
      · rw [dif_pos hj, at_ j hj z hz]
        exact hzj
      · intro m hm _ hmj
        have hmd : m < ds.length := by omega
        have hz' : ds[m]? = some ds[m] := List.getElem?_eq_getElem hmd
        rw [dif_pos hm, at_ m hm _ hz']
        exact hno m _ hmj hz'
      · intro m hm
        rw [dif_pos hm]
        exact eqs _ (Array.getElem_mem hm)
      · exact ⟨.int (j : Nat), H, I.tok _, ⟨_, rfl⟩, q⟩
def dIndexT (x y : D) : Out R := match x with
  | .tup ds => if pyOk (.tup ds) && pyOk y then (match ds.findIdx? fun z => deq z y with
    | some j => cI (j : Nat)
    | none => .st) else .st
  | _ => .st
def isTp : D → Bool
  | .tup _ => true
  | _ => false
theorem isTp_N {F H : Hp} {v : V} {d : D} (s : Same F H) (h : DV K F H v d) (e : isTp d = true) : ∃ a xs, v = .ref a ∧ SqN K H a xs := by
  cases d <;> first | (cases e; done) | skip
  cases h.tupF with
  | tup q r => exact ⟨_, _, rfl, sameN s q⟩
theorem o2_indexT : Op2 K (fun x y H Q => rIndexT K x [y] H Q) dIndexT := by
  intro F H x y a b Q s hx hy h
  cases a <;> first | exact (False.elim h) | skip
  rename_i ds
  obtain ⟨c, h⟩ := if_some h
  rw [Bool.and_eq_true] at c
  obtain ⟨p, e1, s1⟩ := pyOk_py c.1
  obtain ⟨q, e2, s2⟩ := pyOk_py c.2
  obtain ⟨ps, e3, rfl⟩ := pys_of_tup e1
  obtain ⟨l, _, rfl, _⟩ := hx.tup s
  cases e4 : ds.findIdx? fun z => deq z b with
  | none => rw [e4] at h; exact h.elim
  | some j =>
    rw [e4] at h
    obtain ⟨z, z1, z2, z3⟩ := find_py e3 e2 e4
    exact ⟨l, y, q, ps, j, z, rfl, rfl, hx.dp s e1, hy.dp s e2, s1, s2, z1, z2, z3, okV_cl s h (.int _)⟩
theorem n_indexT : ∀ a b, noEx (dIndexT a b) := by
  intro a b; unfold dIndexT cI; repeat' (first | trivial | split)
theorem tBMT_of {r : V → List V → Hp → VK → Prop} {ty : D → Bool} {φ : D → D → Out R} {f g : Sx} (o : Op2 K (fun x y H Q => r x [y] H Q) φ) (n : ∀ a b, noEx (φ a b))
    (hty : ∀ F H v d, Same F H → DV K F H v d → ty d = true → ∃ a xs, v = .ref a ∧ SqN K H a xs) {σ : Sg} {H : Hp} {Q : VK} (h : tE K mg W (eM ty φ f g) σ H Q) :
    tE K mg W f σ H fun x H1 => (∃ a xs, x = .ref a ∧ SqN K H1 a xs) ∧ tE K mg W g σ H1 fun y H2 => r x [y] H2 Q := by
  obtain ⟨F, env, rl, h⟩ := h
  refine ⟨F, env, rl, ?_⟩
  unfold eM at h
  cases e : f env with
  | ok ra =>
    rw [e] at h
    simp only [bTy_ok] at h
    cases et : ty ra.d with
    | false => rw [et] at h; exact h.elim
    | true =>
      rw [et, if_pos rfl] at h
      intro F1 H1 v x q
      refine ⟨hty F1 H1 v _ x.fh q.dv et, F1, env, rl.ext x, ?_⟩
      unfold e2 at h
      cases e' : g env with
      | ok rb =>
        simp only [e, e'] at h
        intro F2 H2 v2 x2 q2
        exact o F2 H2 v v2 _ _ Q x2.fh (x2.dv q.dv) q2.dv (okE_okV (x.trans x2) (n _ _) h)
      | ex c =>
        simp only [e, e'] at h
        exact fun F2 H2 cls x2 m => h F2 H2 cls (x.trans x2) m
      | st =>
        simp only [e, e'] at h
        exact h
  | ex c => rw [e] at h; exact h
  | st => rw [e] at h; exact h
theorem ev_idxT {a b : Expr} {apos : Pos} {f g : Sx} (hu : X.A.units + 65 < cLine) (ha : EV X W a f) (hb : EV X W b g)
    (hbase : attributeBase a "index" X.env (eval a X.env) = eval a X.env := by rfl)
    (hfew : ((backTo pos (starEach [b] X.env)).all (fun x => !x.1) && (backToKw pos (keywordEach [] X.env)).all (fun x => x.1.isSome)
      && decide (([b] : List Expr).length + ([] : List Keyword).length + (if ([] : List Keyword).isEmpty then 0 else 1) < 30)) = true := by rfl)
    (hline : (apos.endLine == pos.line) = true := by rfl) (hs : starEach [b] X.env = (false, eval b X.env) :: starEach [] X.env := by rfl) (hplain : (backTo pos (starEach [] X.env)).any (·.1) = false := by rfl) :
    EV X W (.Call (.Attribute a "index" apos) [b] [] pos) (eM isTp dIndexT f g) :=
  (pe_bmT PySem.F.slot_tuple_index PySem.F.type_tuple_index (mt_indexT hu) ha (pa_cons hb pa_nil hs) hbase hfew hline hs hplain).imp fun _ _ _ h => tBMT_of o2_indexT n_indexT (fun _ _ _ _ => isTp_N) h
/-! ### an own list is lent to an expression, to a test -/
theorem Rel.lend {σ : Sg} {env : Env} {i : Nat} {ds : List D} (r : Rel K F H σ env) (e : env[i]? = some (.ow (.lst ds))) : ∃ (l : Addr) (xs : List V), F l = none ∧ Rel K (upd F l (.lst xs)) H σ (env.set i (.sh (.lst ds))) := by
  obtain ⟨l, sl, f, xs, h, rs⟩ := r.ow i _ e
  have hi : i < env.length := (List.getElem?_eq_some_iff.mp e).1
  have sm : Same F (upd F l (.lst xs)) := fun b u q => by rw [upd_ne (ne_of_none q f)]; exact q
  refine ⟨l, xs, f, ⟨fun b u q => ?_, by rw [List.length_set]; exact r.len, fun j d' q => ?_, fun j d' q => ?_, fun j k d1 d2 l' q1 q2 q3 q4 => ?_, fun j c q => by
    by_cases hj : i = j
    · subst hj; rw [List.getElem?_set_self hi] at q; cases q
    · rw [List.getElem?_set_ne hj] at q; exact r.ex j c q⟩⟩
  · by_cases hb : b = l
    · subst hb; rw [upd_same] at q; cases q; exact h
    · rw [upd_ne hb] at q; exact r.sub _ _ q
  · by_cases hj : i = j
    · subst hj
      rw [List.getElem?_set_self hi] at q
      cases q
      exact ⟨.ref l, sl, .lst upd_same (rs.mono sm)⟩
    · rw [List.getElem?_set_ne hj] at q
      obtain ⟨v, a, b⟩ := r.sh j d' q
      exact ⟨v, a, b.mono sm⟩
  · by_cases hj : i = j
    · subst hj
      rw [List.getElem?_set_self hi] at q
      cases q
    · rw [List.getElem?_set_ne hj] at q
      obtain ⟨l', a, f', o'⟩ := r.ow j d' q
      have hl : l' ≠ l := fun z => hj (r.sep i j _ d' l e q sl (by rw [← z]; exact a))
      refine ⟨l', a, by rw [upd_ne hl]; exact f', ?_⟩
      cases d' <;> first | exact (False.elim o') | skip
      · obtain ⟨xs, h, r⟩ := o'
        exact ⟨xs, h, r.mono sm⟩
      · obtain ⟨xs, h, r⟩ := o'
        exact ⟨xs, h, r.mono sm⟩
      · obtain ⟨us, h, r⟩ := o'
        exact ⟨us, h.mono sm rfl, r.mono sm⟩
  · have hj : i ≠ j := fun z => by subst z; rw [List.getElem?_set_self hi] at q1; cases q1
    have hk : i ≠ k := fun z => by subst z; rw [List.getElem?_set_self hi] at q2; cases q2
    rw [List.getElem?_set_ne hj] at q1
    rw [List.getElem?_set_ne hk] at q2
    exact r.sep j k d1 d2 l' q1 q2 q3 q4
/-- without what lies at l -/
def butL (F : Hp) (l : Addr) : Hp := fun a => if a = l then none else F a
theorem lend_ext {F' H' : Hp} {l : Addr} {xs : List V} (sub : Same F H) (f : F l = none) (x : Ext (upd F l (.lst xs)) H F' H') : Ext F H (butL F' l) H' := by
  refine ⟨x.hh, fun a o q => ?_, fun a o q => ?_, fun a o q => ?_⟩
  · have ha : a ≠ l := fun z => by rw [z, f] at q; cases q
    unfold butL
    rw [if_neg ha]
    exact x.ff _ _ (by rw [upd_ne ha]; exact q)
  · unfold butL at q
    split at q
    · cases q
    · exact x.fh _ _ q
  · unfold butL at q
    split at q
    · cases q
    · rename_i ha
      rcases x.nw a o q with h | h
      · exact .inl h
      · rw [upd_ne ha] at h; exact .inr h
theorem noLst_but {F' : Hp} {l : Addr} {xs : List V} (h : F' l = some (.lst xs)) : Same (noLst F') (butL F' l) := fun a o q => by
  have q2 := noLst_same F' a o q
  by_cases ha : a = l
  · unfold noLst at q
    rw [ha, h] at q
    cases q
  · unfold butL
    rw [if_neg ha]
    exact q2
def tLend (i : Nat) (f : Tx) : Tx := fun env => match env[i]? with
  | some (.ow (.lst ds)) => f (env.set i (.sh (.lst ds)))
  | _ => f env
theorem tv_lend (i : Nat) {e : Expr} {f : Tx} (h : TV X W e f) : TV X W e (tLend i f) := h.imp fun σ H Q z => by
  obtain ⟨F, env, r, z⟩ := z
  unfold tLend at z
  split at z
  · rename_i ds e
    obtain ⟨l, xs, fl, r2⟩ := r.lend e
    refine ⟨_, _, r2, ?_⟩
    cases ef : f (env.set i (.sh (.lst ds))) with
    | ok b => rw [ef] at z; exact fun F' H' x => z _ H' (lend_ext r.sub fl x)
    | ex c => rw [ef] at z; exact fun F' H' cls x m => z _ H' cls (lend_ext r.sub fl x) m
    | st => rw [ef] at z; exact z
  · exact ⟨F, env, r, z⟩
def flR : R → Bool
  | .cl d => flatD d
  | .ow (.lst ds) => flatDs ds
  | _ => false
def kLend (o : Out R) : Out R := match o with
  | .ok r => if flR r = true then .ok r else .st
  | .ex c => .ex c
  | .st => .st
def eLend (i : Nat) (f : Sx) : Sx := fun env => match env[i]? with
  | some (.ow (.lst ds)) => kLend (f (env.set i (.sh (.lst ds))))
  | _ => f env
theorem ev_lend (i : Nat) {e : Expr} {f : Sx} (h : EV X W e f) : EV X W e (eLend i f) := h.imp fun σ H Q z => by
  obtain ⟨F, env, r, z⟩ := z
  unfold eLend at z
  split at z
  · rename_i ds e
    obtain ⟨l, xs, fl, r2⟩ := r.lend e
    refine ⟨_, _, r2, ?_⟩
    cases ef : f (env.set i (.sh (.lst ds))) with
    | ok b =>
      rw [ef] at z
      unfold kLend at z
      simp only [] at z
      split at z
      · rename_i c
        intro F' H' v x q
        have hl : F' l = some (.lst xs) := x.ff _ _ upd_same
        have sm := noLst_but hl
        refine z _ H' v (lend_ext r.sub fl x) ?_
        cases b with
        | cl d => exact (flat_DR c q).mono sm
        | ow d =>
          cases d <;> first | (unfold flR at c; cases c; done) | skip
          obtain ⟨l', rfl, n0, f', ys, h', rs⟩ := q
          refine ⟨l', rfl, n0, ?_, ys, h', (flat_DRs c rs).mono sm⟩
          unfold butL
          split
          · rfl
          · exact f'
        | bo d => unfold flR at c; cases c
      · exact z.elim
    | ex c => rw [ef] at z; exact fun F' H' cls x m => z _ H' cls (lend_ext r.sub fl x) m
    | st => rw [ef] at z; exact z.elim
  · exact ⟨F, env, r, z⟩
end
end Fs
namespace Fs
open PySem PySem.Spec PyProof.Rows L2
/-! ### l[:0:-1] of a list -/
theorem fm_congr {α β : Type} {f g : α → Option β} : ∀ {l : List α}, (∀ x ∈ l, f x = g x) → l.filterMap f = l.filterMap g
  | [], _ => rfl
  | x :: l, h => by
    rw [List.filterMap_cons, List.filterMap_cons, h x List.mem_cons_self, fm_congr fun y hy => h y (List.mem_cons_of_mem _ hy)]
theorem back_pick (items : Array Value) : slicePick items none (some 0) (some (-1)) = items.toList.tail.reverse.toArray := by
  unfold slicePick
  have e : (sliceRange (sliceBounds none (some 0) (some (-1)) items.size).1 (sliceBounds none (some 0) (some (-1)) items.size).2.1 (sliceBounds none (some 0) (some (-1)) items.size).2.2).filterMap (items[·]?) = items.toList.tail.reverse := by
    have b : sliceBounds none (some 0) (some (-1)) items.size = ((items.size : Int) - 1, max (-1) (min 0 ((items.size : Int) - 1)), -1) := by
      simp [sliceBounds]
    rw [b]
    show (sliceRange ((items.size : Int) - 1) (max (-1) (min 0 ((items.size : Int) - 1))) (-1)).filterMap (items[·]?) = _
    have r : sliceRange ((items.size : Int) - 1) (max (-1) (min 0 ((items.size : Int) - 1))) (-1) = (List.range (items.size - 1)).map fun k => items.size - 1 - k := by
      unfold sliceRange
      have h1 : ¬ ((-1 : Int) > 0) := by decide
      simp only [h1, if_false]
      by_cases h : (1 : Nat) ≤ items.size
      · have e0 : max (-1) (min 0 ((items.size : Int) - 1)) = 0 := by omega
        rw [e0]
        by_cases h2 : (items.size : Int) - 1 > 0
        · have e : ((items.size : Int) - 1 - 0 - -1 - 1) / (- -1) = ((items.size - 1 : Nat) : Int) := by
            rw [show (- -1 : Int) = 1 by decide, Int.ediv_one]
            omega
          simp only [h2, if_true, e, Int.toNat_natCast]
          apply List.map_congr_left
          intro k hk
          have := List.mem_range.mp hk
          omega
        · have e : items.size = 1 := by omega
          rw [e]
          simp
      · have e : items.size = 0 := by omega
        rw [e]
        have e0 : max (-1) (min 0 (((0 : Nat) : Int) - 1)) = -1 := by decide
        rw [e0]
        simp
    rw [r]
    have t : items.toList.tail.toArray.size = items.size - 1 := by simp
    have q := PySem.W.krv_all (items.toList.tail.toArray)
    rw [t] at q
    have q2 : ((List.range (items.size - 1)).reverse.filterMap (items.toList.tail.toArray[·]?)) = items.toList.tail.reverse := by
      rw [List.filterMap_reverse, q]
    rw [← q2, ← PySem.W.krv_range, List.filterMap_map, List.filterMap_map]
    apply fm_congr
    intro k hk
    have hk := List.mem_range.mp hk
    show items[items.size - 1 - k]? = items.toList.tail.toArray[items.size - 1 - 1 - k]?
    simp only [List.getElem?_toArray, List.getElem?_tail, Array.getElem?_toList]
    congr 1
    omega
  rw [e]
section
variable {X : Cx} {K : PySem.W.Frag} {F H : Hp} {Q : VK} {W : WX} {pos : Pos} {mg : Str → Option Value}
def rBack (K : PySem.W.Frag) : V → Hp → VK → Prop := fun x H Q => ∃ a xs, x = .ref a ∧ SqL K H a xs ∧ ∀ p, H p = none → Q (.ref p) (upd H p (.lst xs.tail.reverse))
theorem vals_tail : ∀ {xs : List V} {its : List Value}, Vals xs its → Vals xs.tail its.tail
  | _, _, .nil => .nil
  | _, _, .cons _ r => r
theorem sl_back {x : V} {v vl vu vs : Value} {sl : Addr} {pins : List (Addr × Obj)} {s : Shared} {σ : Sg} (I : L2.Inv X pins σ H s) (rx : RelV x v) (hs : s.heap.IsSliceOf sl vl vu vs) (pl : IsPart vl none) (pu : IsPart vu (some 0)) (ps : IsPart vs (some (-1)))
    (h : rBack X.K x H Q) :
    ∃ T id, typeLookup (.type T) "__getitem__" = pure (some (.builtin id)) ∧ s.TypeIs v T ∧ wpAny (model X.prog X.w) X.A (getItem v (.ref sl)) (EP X pins σ Q) X.xe s := by
  obtain ⟨a, xs, rfl, hx, q⟩ := h
  cases rx
  obtain ⟨its, r, ht, hz⟩ := I.list hx
  have hlen := r.length
  refine ⟨"list", _, PySem.slot_list_getitem.lookup, ht.isList.typeIs, ?_⟩
  refine wpAny_getItem_list_slice ht.isList hs pl pu ps (by decide) ?_ (by rw [List.size_toArray]; omega)
  rw [back_pick]
  refine ⟨.ref _, _, I.laid (t' := s.toks) (o := .lst xs.tail.reverse) (fun b ob q => Heap.get?_push_of_some _ q) (Nat.le_refl _) ?_, rfl, q _ (I.hok.fresh (Nat.le_refl _))⟩
  exact ⟨by rw [List.length_reverse, List.length_tail]; omega, _, 0, (vals_tail r).reverse, Heap.get?_push_size _ rfl⟩
theorem pe_back {e : Expr} {te : TE} {k k0 : Nat} {p0 p1 p2 p3 pos : Pos} (he : PE X e te) : PE X (.Subscript e (.Slice none (some (.Constant (.int 0) k0 p0)) (some (.UnaryOp .USub (.Constant (.int 1) k p1) p2)) p3) pos) (fun σ H Q => te σ H fun x H1 => rBack X.K x H1 Q) := by
  refine ⟨fun pins s σ H Q I h => ?_⟩
  refine Subscript_ (thn (he.run pins s σ H _ I h) fun v s1 ⟨x, H1, I1, r1, q⟩ => ?_)
  have hst : PO X (some (.UnaryOp .USub (.Constant (.int 1) k p1) p2)) (tPart (tUn (rU fun i => .int (-i)) (tC (.int 1)))) := po_some (pe_un un_neg pe_int)
  have hhi : PO X (some (.Constant (.int 0) k0 p0)) (tPart (tC (.int 0))) := po_some pe_int
  refine wpAny_Slice (thn (po_none.run pins s1 σ H1 (fun o H2 => o = none ∧ H2 = H1) I1 ⟨rfl, rfl⟩) fun vl s2 ⟨l, H2, I2, pl, el, e2⟩ => ?_)
  subst el e2
  refine thn (hhi.run pins s2 σ H2 (fun o H3 => o = some 0 ∧ H3 = H2) I2 ⟨0, rfl, rfl, rfl⟩) fun vu s3 ⟨u, H3, I3, pu, eu, e3⟩ => ?_
  subst eu e3
  refine thn (hst.run pins s3 σ H3 (fun o H4 => o = some (-1) ∧ H4 = H3) I3 ⟨1, rfl, -1, rfl, rfl, rfl⟩) fun vs s4 ⟨o, H4, I4, ps, eo, e4⟩ => ?_
  subst eo e4
  have I5 : L2.Inv X pins σ H4 { s4 with heap := s4.heap.push { cls := .type "slice", data := .fields #[vl, vu, vs] } } := I4.kept (t' := s4.toks) fun b ob q => Heap.get?_push_of_some _ q
  obtain ⟨T, id, hT, ht, hg⟩ := sl_back (Q := Q) (sl := s4.heap.objs.size) I5 r1 (Heap.IsSliceOf.new _ vl vu vs) pl pu ps q
  show wpAny (model X.prog X.w) X.A (subscriptTail e (.Slice none (some (.Constant (.int 0) k0 p0)) (some (.UnaryOp .USub (.Constant (.int 1) k p1) p2)) p3) v (.ref s4.heap.objs.size)) (EP X pins σ Q) X.xe { s4 with heap := s4.heap.push { cls := .type "slice", data := .fields #[vl, vu, vs] } }
  exact tail_any (ops := [v, .ref s4.heap.objs.size]) ht hT hg (by with_unfolding_all rfl)
theorem DRs.tail : ∀ {xs : List V} {ds : List D}, DRs K F xs ds → DRs K F xs.tail ds.tail
  | _, _, .nil => .nil
  | _, _, .cons _ r => r
def dBack : D → Out R
  | .lst l => oD (.lst l.tail.reverse)
  | _ => .st
theorem n_back : ∀ a, noEx (dBack a) := by
  intro a; unfold dBack oD; repeat' (first | trivial | split)
theorem o1_back : Op1 K (rBack K) dBack := by
  intro F H x a Q s hx h
  cases a <;> first | exact (False.elim h) | skip
  obtain ⟨l, xs, rfl, q1, r1⟩ := hx.lst s
  exact ⟨_, _, rfl, .of q1, okV_newL s h r1.tail.rev⟩
theorem ev_back {e : Expr} {f : Sx} {k k0 : Nat} {p0 p1 p2 p3 pos : Pos} (he : EV X W e f) : EV X W (.Subscript e (.Slice none (some (.Constant (.int 0) k0 p0)) (some (.UnaryOp .USub (.Constant (.int 1) k p1) p2)) p3) pos) (e1 dBack f) :=
  (pe_back he).imp fun _ _ _ h => t1_of o1_back n_back h
end
end Fs
namespace Fs
open PySem PySem.Spec PyProof.Rows L2
/-! ### a loop over a list in which an own list lies: lent to the loop, own again behind it -/
section
variable {X : Cx} {K : PySem.W.Frag} {F H F0 H0 : Hp} {Q : VK} {W : WX} {pos : Pos} {mg : Str → Option Value} {tg : Expr}
/-- what stays known -/
def wkS : Slot → Slot
  | .sh d => if flatD d then .sh d else .un
  | .ow (.lst ds) => if flatDs ds then .ow (.lst ds) else .un
  | _ => .un
def wkE (e : Env) : Env := e.map wkS
def unlend (i : Nat) (ws : List Nat) (a : Addr) (ds : List D) : SO → SO
  | .nx e => if isExc a e[i]? = true then .nx ((wipeE (wkE e) ws).set i (.ow (.lst ds))) else .st
  | .rt r => if flR r = true then .rt r else .st
  | _ => .st
theorem wk_sh {s : Slot} {d : D} (h : wkS s = .sh d) : s = .sh d ∧ flatD d = true := by
  unfold wkS at h
  split at h
  · split at h
    · rename_i c
      cases h
      exact ⟨rfl, c⟩
    · cases h
  · split at h <;> cases h
  · cases h
theorem wk_ow {s : Slot} {d : D} (h : wkS s = .ow d) : s = .ow d ∧ ∃ ds, d = .lst ds ∧ flatDs ds = true := by
  unfold wkS at h
  split at h
  · split at h <;> cases h
  · split at h
    · rename_i c
      cases h
      exact ⟨rfl, _, rfl, c⟩
    · cases h
  · cases h
theorem wk_exc {s : Slot} {a : Addr} (h : wkS s = .exc a) : False := by
  unfold wkS at h
  split at h
  · split at h <;> cases h
  · split at h <;> cases h
  · cases h
theorem SRel.lendL {F1 H1 : Hp} {σ : Sg} {env : Env} {i : Nat} {ds : List D} {l : Addr} {xs : List V} (r : SRel K F0 H0 F H σ env) (e : env[i]? = some (.ow (.lst ds))) (el : σ[i]? = some (some (.ref l))) (fl : F l = none) (hl : H l = some (.lst xs)) (x : Ext (upd F l (.lst xs)) H F1 H1) :
    SRel K (upd F0 l (.lst xs)) (upd H0 l (.lst xs)) F1 H1 σ (env.set i (.exc l)) := by
  have hi : i < env.length := (List.getElem?_eq_some_iff.mp e).1
  have n0 := r.own i _ l e el
  have f0 : F0 l = none := r.ext.ff.free fl
  have x2 := lend_ext r.rel.sub fl x
  have sF : Same F F1 := fun b u q => x.ff _ _ (by rw [upd_ne (ne_of_none q fl)]; exact q)
  have key : ∀ {j : Nat} {t : Slot}, (env.set i (.exc l))[j]? = some t → (j = i ∧ t = .exc l) ∨ (j ≠ i ∧ env[j]? = some t) := fun {j t} q => by
    by_cases hj : j = i
    · subst hj
      rw [List.getElem?_set_self hi] at q
      cases q
      exact .inl ⟨rfl, rfl⟩
    · rw [List.getElem?_set_ne (Ne.symm hj)] at q
      exact .inr ⟨hj, q⟩
  have ow : ∀ {j : Nat} {d : D}, (env.set i (.exc l))[j]? = some (.ow d) → j ≠ i ∧ env[j]? = some (.ow d) := fun {j d} q => by
    rcases key q with ⟨_, z⟩ | z
    · cases z
    · exact z
  have ne : ∀ {j : Nat} {d : D} {a : Addr}, j ≠ i → env[j]? = some (.ow d) → σ[j]? = some (some (.ref a)) → a ≠ l := fun {j d a} hj q q2 z => hj (r.rel.sep j i d _ a q e q2 (by rw [z]; exact el))
  refine ⟨⟨x.fh, by rw [List.length_set]; exact r.rel.len, fun j d q => ?_, fun j d q => ?_, fun j k d d2 a q1 q2 => r.rel.sep j k d d2 a (ow q1).2 (ow q2).2, fun j a q => ?_⟩, ⟨fun b w q => ?_, fun b w q => ?_, x.fh, fun a w q => ?_⟩, fun j d a q1 q2 => ?_⟩
  · rcases key q with ⟨_, z⟩ | ⟨_, z⟩
    · cases z
    · obtain ⟨v, a, b⟩ := r.rel.sh j d z
      exact ⟨v, a, b.mono sF⟩
  · obtain ⟨hj, q⟩ := ow q
    obtain ⟨l', a, f', o'⟩ := r.rel.ow j d q
    have hl' := ne hj q a
    have fu : upd F l (.lst xs) l' = none := by rw [upd_ne hl']; exact f'
    refine ⟨l', a, ?_, ?_⟩
    · cases z : F1 l' with
      | none => rfl
      | some u =>
        rcases x.nw _ _ z with y | y
        · cases d <;> first | exact (False.elim o') | skip
          · obtain ⟨ys, h, _⟩ := o'; rw [y] at h; cases h
          · obtain ⟨ys, h, _⟩ := o'; rw [y] at h; cases h
          · obtain ⟨ys, h, _⟩ := o'; obtain ⟨_, h⟩ := h.at_; rw [y] at h; cases h
        · rw [fu] at y; cases y
    · cases d <;> first | exact (False.elim o') | skip
      · obtain ⟨ys, h, rr⟩ := o'
        exact ⟨ys, x.hh _ _ h, rr.mono sF⟩
      · obtain ⟨ys, h, rr⟩ := o'
        exact ⟨ys, x.hh _ _ h, rr.mono sF⟩
      · obtain ⟨ys, h, rr⟩ := o'
        exact ⟨ys, h.same sF x.hh, rr.mono sF⟩
  · rcases key q with ⟨z1, z⟩ | ⟨_, z⟩
    · cases z; subst z1; exact el
    · exact r.rel.ex j a z
  · by_cases hb : b = l
    · subst hb; rw [upd_same] at q; cases q; exact x.hh _ _ hl
    · rw [upd_ne hb] at q; exact x.hh _ _ (r.ext.hh _ _ q)
  · by_cases hb : b = l
    · subst hb; rw [upd_same] at q; cases q; exact x.ff _ _ upd_same
    · rw [upd_ne hb] at q; exact sF _ _ (r.ext.ff _ _ q)
  · by_cases hb : a = l
    · subst hb
      have : F1 a = some (.lst xs) := x.ff _ _ upd_same
      rw [this] at q
      cases q
      exact .inr upd_same
    · rcases x.nw a w q with y | y
      · exact .inl (by rw [upd_ne hb]; exact r.ext.hh.free y)
      · rw [upd_ne hb] at y
        rcases r.ext.nw a w y with y | y
        · exact .inl (by rw [upd_ne hb]; exact y)
        · exact .inr (by rw [upd_ne hb]; exact y)
  · obtain ⟨hj, h2⟩ := ow q1
    rw [upd_ne (ne hj h2 q2)]
    exact r.own j d a h2 q2
theorem unlend_ext {l : Addr} {xs : List V} {F4 H4 : Hp} (n0 : H0 l = none) (f0 : F0 l = none) (x : Ext (upd F0 l (.lst xs)) (upd H0 l (.lst xs)) F4 H4) : Ext F0 H0 (butL F4 l) H4 := by
  refine ⟨fun b w q => x.hh _ _ (by rw [upd_ne (ne_of_none q n0)]; exact q), fun b w q => ?_, fun a o q => ?_, fun a o q => ?_⟩
  · have hb : b ≠ l := ne_of_none q f0
    unfold butL
    rw [if_neg hb]
    exact x.ff _ _ (by rw [upd_ne hb]; exact q)
  · unfold butL at q
    split at q
    · cases q
    · exact x.fh _ _ q
  · unfold butL at q
    split at q
    · cases q
    · rename_i ha
      rcases x.nw a o q with h | h
      · rw [upd_ne ha] at h; exact .inl h
      · rw [upd_ne ha] at h; exact .inr h
theorem wipe_len (e : Env) : ∀ ws : List Nat, (wipeE e ws).length = e.length
  | [] => rfl
  | w :: ws => by unfold wipeE; rw [List.length_set, wipe_len e ws]
theorem wipe_at {e : Env} {j : Nat} {t : Slot} : ∀ {ws : List Nat}, (wipeE e ws)[j]? = some t → t = .un ∨ e[j]? = some t
  | [], h => .inr h
  | w :: ws, h => by
    unfold wipeE at h
    by_cases c : w = j
    · subst c
      have hl : w < (wipeE e ws).length := by
        have := (List.getElem?_eq_some_iff.mp h).1
        rw [List.length_set] at this
        exact this
      rw [List.getElem?_set_self hl] at h
      cases h
      exact .inl rfl
    · rw [List.getElem?_set_ne c] at h
      exact wipe_at h
theorem SRel.unlend {ws : List Nat} {l : Addr} {xs : List V} {ds : List D} {F4 H4 : Hp} {σ4 : Sg} {e4 : Env} {i : Nat} (r : SRel K (upd F0 l (.lst xs)) (upd H0 l (.lst xs)) F4 H4 σ4 e4) (n0 : H0 l = none) (f0 : F0 l = none) (fl : F l = none) (s : Same F F4) (rs : DRs K F xs ds) (e : e4[i]? = some (.exc l)) :
    SRel K F0 H0 (butL F4 l) H4 σ4 ((wipeE (wkE e4) ws).set i (.ow (.lst ds))) := by
  have hi : i < e4.length := (List.getElem?_eq_some_iff.mp e).1
  have lw : (wipeE (wkE e4) ws).length = e4.length := by rw [wipe_len]; unfold wkE; rw [List.length_map]
  have hi2 : i < (wipeE (wkE e4) ws).length := by rw [lw]; exact hi
  have el := r.rel.ex i l e
  have hl : H4 l = some (.lst xs) := r.ext.hh _ _ upd_same
  have hf : F4 l = some (.lst xs) := r.ext.ff _ _ upd_same
  have sm := noLst_but hf
  have sb : Same F (butL F4 l) := fun a o q => by
    have ha : a ≠ l := ne_of_none q fl
    unfold butL
    rw [if_neg ha]
    exact s _ _ q
  have key : ∀ {j : Nat} {t : Slot}, t ≠ .un → ((wipeE (wkE e4) ws).set i (.ow (.lst ds)))[j]? = some t → (j = i ∧ t = .ow (.lst ds)) ∨ (j ≠ i ∧ ∃ t', e4[j]? = some t' ∧ wkS t' = t) := fun {j t} nu q => by
    by_cases hj : j = i
    · subst hj
      rw [List.getElem?_set_self hi2] at q
      cases q
      exact .inl ⟨rfl, rfl⟩
    · rw [List.getElem?_set_ne (Ne.symm hj)] at q
      rcases wipe_at q with q | q
      · exact absurd q nu
      unfold wkE at q
      rw [List.getElem?_map] at q
      cases z : e4[j]? with
      | none => rw [z] at q; cases q
      | some t' => rw [z] at q; cases q; exact .inr ⟨hj, t', rfl, rfl⟩
  have own : ∀ {j : Nat} {d : D} {a : Addr}, e4[j]? = some (.ow d) → σ4[j]? = some (some (.ref a)) → a ≠ l ∧ H0 a = none := fun {j d a} q1 q2 => by
    have z := r.own j d a q1 q2
    have ha : a ≠ l := fun w => by rw [w, upd_same] at z; cases z
    exact ⟨ha, by rw [upd_ne ha] at z; exact z⟩
  refine ⟨⟨fun a o q => ?_, by rw [List.length_set, lw]; exact r.rel.len, fun j d q => ?_, fun j d q => ?_, fun j k d d2 a q1 q2 q3 q4 => ?_, fun j a q => ?_⟩, unlend_ext n0 f0 r.ext, fun j d a q1 q2 => ?_⟩
  · unfold butL at q
    split at q
    · cases q
    · exact r.rel.sub _ _ q
  · rcases key (by intro z; cases z) q with ⟨_, z⟩ | ⟨_, t', z1, z2⟩
    · cases z
    · obtain ⟨rfl, c⟩ := wk_sh z2
      obtain ⟨v, a, b⟩ := r.rel.sh j d z1
      exact ⟨v, a, (flat_DR c b).mono sm⟩
  · rcases key (by intro z; cases z) q with ⟨z1, z⟩ | ⟨_, t', z1, z2⟩
    · cases z
      subst z1
      refine ⟨l, el, ?_, xs, hl, rs.mono sb⟩
      unfold butL
      rw [if_pos rfl]
    · obtain ⟨rfl, es, rfl, c⟩ := wk_ow z2
      obtain ⟨l', a, f', ys, h', rr⟩ := r.rel.ow j _ z1
      refine ⟨l', a, ?_, ys, h', (flat_DRs c rr).mono sm⟩
      unfold butL
      split
      · rfl
      · exact f'
  · rcases key (by intro z; cases z) q1 with ⟨z1, z⟩ | ⟨_, t', z1, z2⟩
    · subst z1
      rw [el] at q3
      cases q3
      rcases key (by intro z; cases z) q2 with ⟨w1, _⟩ | ⟨_, t2, w1, w2⟩
      · exact w1.symm
      · obtain ⟨rfl, _⟩ := wk_ow w2
        exact absurd rfl (own w1 q4).1
    · obtain ⟨rfl, _⟩ := wk_ow z2
      rcases key (by intro z; cases z) q2 with ⟨w1, _⟩ | ⟨_, t2, w1, w2⟩
      · subst w1
        rw [el] at q4
        cases q4
        exact absurd rfl (own z1 q3).1
      · obtain ⟨rfl, _⟩ := wk_ow w2
        exact r.rel.sep j k _ _ a z1 w1 q3 q4
  · rcases key (by intro z; cases z) q with ⟨_, z⟩ | ⟨_, t', z1, z2⟩
    · cases z
    · exact (wk_exc z2).elim
  · rcases key (by intro z; cases z) q1 with ⟨z1, _⟩ | ⟨_, t', z1, z2⟩
    · subst z1
      rw [el] at q2
      cases q2
      exact n0
    · obtain ⟨rfl, _⟩ := wk_ow z2
      exact (own z1 q2).2
noncomputable def sForL (i : Nat) (ws : List Nat) (src : Ix) (t : Tgt) (b : Stx) : Stx := fun env => match env[i]? with
  | some (.ow (.lst ds)) => (match src (env.set i (.sh (.lst ds))) with
    | .ok (true, items) => sameS fun a => unlend i ws a ds (loopF t b items (env.set i (.exc a)))
    | _ => .st)
  | _ => .st
theorem sv_forL (i : Nat) (ws : List Nat) {iter : Expr} {body : List Stmt} {src : Ix} {t : Tgt} {b : Stx} (hp : PassesOwn (model X.prog X.w) X.A X.env X.xe) (hc : X.calm = true) (hi : IV X W tg iter src) (hg : GV X tg t) (hb : SVs X W body b)
    (hs : ∀ x, foldedSetIterable iter X.env x = pure x := by intro _; rfl) : SV X W (.For tg iter body [] pos) (sForL i ws src t b) := (ps_for hp hc hi hg hb hs).imp fun E σ H z => by
  obtain ⟨F0, H0, F, env, rl, z⟩ := z
  unfold sForL at z
  split at z
  rotate_left
  · exact z.elim
  rename_i ds e
  obtain ⟨l, el, fl, xs, hl, rs⟩ := rl.rel.ow i _ e
  obtain ⟨l', xs', fl', r2⟩ := rl.rel.lend e
  have hl' : l' = l ∧ xs' = xs := by
    have hi : i < env.length := (List.getElem?_eq_some_iff.mp e).1
    obtain ⟨v, a, b⟩ := r2.sh i _ (List.getElem?_set_self hi)
    rw [el] at a
    cases a
    cases b with
    | lst q _ =>
      have q2 := r2.sub _ _ q
      by_cases c : l = l'
      · subst c
        have q3 := r2.sub _ _ (upd_same (H := F) (a := l) (o := .lst xs'))
        rw [hl] at q3
        cases q3
        exact ⟨rfl, rfl⟩
      · rw [upd_ne c, fl] at q
        cases q
  obtain ⟨rfl, rfl⟩ := hl'
  have n0 := rl.own i _ l' e el
  have f0 : F0 l' = none := rl.ext.ff.free fl
  split at z
  rotate_left
  · exact z.elim
  rename_i items es
  have ne : (sameS fun a => Fs.unlend i ws a ds (loopF t b items (env.set i (.exc a)))) ≠ .st := fun y => by rw [y] at z; exact z
  have ea := sameS_at ne l'
  rw [← ea] at z
  refine ⟨_, _, r2, ?_⟩
  rw [es]
  intro F1 H1 G J x sg hG it
  have hG := hG rfl
  subst hG
  have r0 := rl.lendL e el fl hl x
  have sF : Same F G := fun b u q => x.ff _ _ (by rw [upd_ne (ne_of_none q fl)]; exact q)
  have sf0 : ∀ {F2 H2 : Hp} {σ2 : Sg} {e2 : Env}, SRel X.K (upd F0 l' (.lst xs')) (upd H0 l' (.lst xs')) F2 H2 σ2 e2 → Same G F2 → Same G H2 := fun r s => s.trans r.rel.sub
  refine ⟨fun i' m σ' H' => ∃ F' env', SRel X.K (upd F0 l' (.lst xs')) (upd H0 l' (.lst xs')) F' H' σ' env' ∧ Same G F' ∧ m = items.length - i' ∧ i' ≤ items.length ∧ okS X.K X.mg W F0 H0 E (Fs.unlend i ws l' ds (loopF t b (items.drop i') env')), ⟨items.length, G, _, r0, .refl _, rfl, Nat.zero_le _, z⟩, ?_⟩
  rintro q m σ2 H2 ⟨F2, env2, r2', s2, rfl, hi, z2⟩
  by_cases hlt : q < items.length
  · refine .inr ⟨it.go q H2 (sf0 r2' s2) hlt, fun σ' H' => ∃ F' env', SRel X.K (upd F0 l' (.lst xs')) (upd H0 l' (.lst xs')) F' H' σ' env' ∧ Same G F' ∧ okS X.K X.mg W F0 H0 E (Fs.unlend i ws l' ds (loopF t b (items.drop (q + 1)) env')), fun σ' H' ⟨F', env', a, c, d⟩ => ⟨items.length - (q + 1), by omega, F', env', a, c, rfl, hlt, d⟩, fun v H3 y => ?_⟩
    obtain ⟨F3, x3, dr⟩ := it.yld q F2 H2 v H3 (sf0 r2' s2) s2 r2'.rel.sub y _ (List.getElem?_eq_getElem hlt)
    rw [List.drop_eq_getElem_cons hlt] at z2
    unfold loopF at z2
    cases eb : bindT t items[q] env2 with
    | none => rw [eb] at z2; exact z2.elim
    | some env3 =>
      simp only [eb] at z2
      refine ⟨upd F0 l' (.lst xs'), upd H0 l' (.lst xs'), F3, env2, items[q], env3, r2'.step x3, dr, eb, fun σ3 r3 _ => ?_⟩
      have s3 : Same G F3 := s2.trans x3.ff
      refine ⟨F3, upd H0 l' (.lst xs'), F3, env3, r3.base, ?_⟩
      cases e4 : b env3 <;> simp only [e4] at z2
      · exact fun F4 H4 σ4 r4 => ⟨F4, _, r4.unbase r3.ext, s3.trans r4.ext.ff, z2⟩
      · rename_i rr
        simp only [Fs.unlend] at z2
        split at z2
        · rename_i c
          intro F4 H4 v x4 q4
          have x5 := r3.ext.rebase x4
          have hf : F4 l' = some (.lst xs') := x5.ff _ _ upd_same
          have sm := noLst_but hf
          refine z2 _ H4 v (unlend_ext n0 f0 x5) ?_
          cases rr with
          | cl d => exact (flat_DR c q4).mono sm
          | ow d =>
            cases d <;> first | (unfold flR at c; cases c; done) | skip
            obtain ⟨l2, rfl, n2, f', ys, h', rs2⟩ := q4
            have hl2 : l2 ≠ l' := fun w => by rw [w, upd_same] at n2; cases n2
            refine ⟨l2, rfl, by rw [upd_ne hl2] at n2; exact n2, ?_, ys, h', (flat_DRs c rs2).mono sm⟩
            unfold butL
            split
            · rfl
            · exact f'
          | bo d => unfold flR at c; cases c
        · exact z2.elim
      · simp only [Fs.unlend] at z2
        split at z2
        · rename_i hh
          exact fun F4 H4 σ4 r4 => z2 _ H4 σ4 ((r4.unbase r3.ext).unlend n0 f0 fl (sF.trans (s3.trans r4.ext.ff)) rs (isExc_of hh))
        · exact z2.elim
      · exact fun F4 H4 σ4 r4 => ⟨F4, _, r4.unbase r3.ext, s3.trans r4.ext.ff, z2⟩
      · exact z2.elim
      · exact z2.elim
  · have ei : q = items.length := by omega
    subst ei
    rw [List.drop_length] at z2
    simp only [loopF, Fs.unlend] at z2
    split at z2
    · rename_i hh
      exact .inl ⟨it.stop _ H2 (sf0 r2' s2) (Nat.le_refl _), z2 _ H2 σ2 (r2'.unlend n0 f0 fl (sF.trans s2) rs (isExc_of hh))⟩
    · exact z2.elim
end
end Fs
namespace Fs
open PySem PySem.Spec PyProof.Rows L2
/-! ### a list in a told tuple is changed: where nothing that was handed in has a list -/
section
variable {X : Cx} {K : PySem.W.Frag} {F H F0 H0 : Hp} {Q : VK} {W : WX} {pos : Pos} {mg : Str → Option Value}
def NoL (F : Hp) : Prop := ∀ a xs, F a ≠ some (.lst xs)
theorem noL_noLst (F : Hp) : NoL (noLst F) := fun a xs h => by
  have := noLst_same F a _ h
  unfold noLst at h
  rw [this] at h
  cases h
def tSL (K : PySem.W.Frag) (mg : Str → Option Value) (W : WX) (f : Stx) : TS := fun E σ H => ∃ F0 H0 F env, NoL F0 ∧ SRel K F0 H0 F H σ env ∧ okS K mg W F0 H0 E (f env)
def SVsL (X : Cx) (W : WX) (s : List Stmt) (f : Stx) : Prop := PSs X s (tSL X.K X.mg W f)
theorem svsL_of {ss : List Stmt} {f : Stx} (h : SVs X W ss f) : SVsL X W ss f := h.imp fun E σ H z => by
  obtain ⟨F0, H0, F, env, _, r, z⟩ := z
  exact ⟨F0, H0, F, env, r, z⟩
theorem svsL_cons {s : Stmt} {ss : List Stmt} {f g : Stx} (h : SV X W s f) (h2 : SVsL X W ss g) : SVsL X W (s :: ss) (sSeq f g) := (pss_cons h h2).imp fun E σ H z => by
  obtain ⟨F0, H0, F, env, nl, r, z⟩ := z
  refine ⟨F0, H0, F, env, r, ?_⟩
  unfold sSeq at z
  cases e : f env <;> rw [e] at z
  · exact fun F' H' σ' r' => ⟨F0, H0, F', _, nl, r', z⟩
  all_goals exact z
theorem svsL_freeze {ss : List Stmt} {f : Stx} (i : Nat) (h : SVsL X W ss f) : SVsL X W ss (sSeq (sFreeze i) f) := h.imp fun E σ H z => by
  obtain ⟨F0, H0, F, env, nl, r, z⟩ := z
  unfold sSeq sFreeze at z
  cases e : env[i]? with
  | none => simp only [e] at z; exact ⟨F0, H0, F, env, nl, r, z⟩
  | some s =>
    cases s with
    | ow d =>
      simp only [e] at z
      obtain ⟨F', r'⟩ := Rel.froz r e
      exact ⟨F0, H0, F', _, nl, r', z⟩
    | sh d => simp only [e] at z; exact ⟨F0, H0, F, env, nl, r, z⟩
    | un => simp only [e] at z; exact ⟨F0, H0, F, env, nl, r, z⟩
    | exc _ => simp only [e] at z; exact ⟨F0, H0, F, env, nl, r, z⟩
def flatO : Slot → Bool
  | .un => true
  | .sh d => flatD d
  | .ow (.lst ds) => flatDs ds
  | _ => false
def sThaw (i k : Nat) (c : Int) : Stx := fun env => match env[i]? with
  | some (.sh (.tup ds)) => (match ds[k]? with
    | some (.lst es) => if (flatDs es && flatDs (ds.set k .non) && (env.set i .un).all flatO) = true ∧ es.length < 16777216 then .nx (env.set i (.sh (.tup (ds.set k (.lst (es ++ [.int c])))))) else .st
    | _ => .st)
  | _ => .st
theorem thaw_nx (i k : Nat) (c : Int) (env : Env) : sThaw i k c env = .st ∨ ∃ ds es, env[i]? = some (.sh (.tup ds)) ∧ ds[k]? = some (.lst es) ∧ (flatDs es && flatDs (ds.set k .non) && (env.set i .un).all flatO) = true ∧ es.length < 16777216 ∧ sThaw i k c env = .nx (env.set i (.sh (.tup (ds.set k (.lst (es ++ [.int c])))))) := by
  unfold sThaw
  split
  · rename_i ds e
    split
    · rename_i es ek
      split
      · rename_i h
        exact .inr ⟨ds, es, e, ek, h.1, h.2, rfl⟩
      · exact .inl rfl
    · exact .inl rfl
  · exact .inl rfl
theorem DRs_setk {F F2 : Hp} {u : V} {d' : D} (m : ∀ v d, flatD d = true → DR K F v d → DR K F2 v d) (q : DR K F2 u d') : ∀ {vs : List V} {ds : List D} {k : Nat}, DRs K F vs ds → flatDs (ds.set k .non) = true → vs[k]? = some u → DRs K F2 vs (ds.set k d')
  | _, _, _, .nil, _, e => by simp at e
  | _, _, 0, .cons r t, h, e => by
    simp at e
    subst e
    rw [List.set_cons_zero] at h ⊢
    unfold flatDs at h
    rw [Bool.and_eq_true] at h
    exact .cons q (DRs_flat m t h.2)
  | _, _, k + 1, .cons r t, h, e => by
    rw [List.set_cons_succ] at h ⊢
    unfold flatDs at h
    rw [Bool.and_eq_true] at h
    exact .cons (m _ _ h.1 r) (DRs_setk m q t h.2 (by simpa using e))
where
  DRs_flat {F F2 : Hp} (m : ∀ v d, flatD d = true → DR K F v d → DR K F2 v d) : ∀ {vs : List V} {ds : List D}, DRs K F vs ds → flatDs ds = true → DRs K F2 vs ds
  | _, _, .nil, _ => .nil
  | _, _, .cons r t, h => by
    unfold flatDs at h
    rw [Bool.and_eq_true] at h
    exact .cons (m _ _ h.1 r) (DRs_flat m t h.2)
theorem SRel.thaw {σ : Sg} {env : Env} {i k : Nat} {c : Int} {t l : Addr} {ds es : List D} {vs xs : List V} (r : SRel K F0 H0 F H σ env) (nl : NoL F0) (e : env[i]? = some (.sh (.tup ds))) (el : σ[i]? = some (some (.ref t))) (qt : SqN K F t vs) (rs : DRs K F vs ds)
    (ek : vs[k]? = some (.ref l)) (hl : F l = some (.lst xs)) (rx : DRs K F xs es) (f1 : flatDs es = true) (f2 : flatDs (ds.set k .non) = true) (f3 : (env.set i .un).all flatO = true) :
    SRel K F0 H0 (upd F l (.lst (xs ++ [.int c]))) (upd H l (.lst (xs ++ [.int c]))) σ (env.set i (.sh (.tup (ds.set k (.lst (es ++ [.int c])))))) := by
  have hi : i < env.length := (List.getElem?_eq_some_iff.mp e).1
  have f0 : F0 l = none := by
    cases z : F0 l with
    | none => rfl
    | some o =>
      have := r.ext.ff _ _ z
      rw [hl] at this
      cases this
      exact absurd z (nl l xs)
  have n0 : H0 l = none := by
    rcases r.ext.nw l _ hl with z | z
    · exact z
    · rw [f0] at z; cases z
  have sm : Same (noLst F) (upd F l (.lst (xs ++ [.int c]))) := fun a o q => by
    have q2 := noLst_same F a o q
    have ha : a ≠ l := fun z => by
      unfold noLst at q
      rw [z, hl] at q
      cases q
    rw [upd_ne ha]
    exact q2
  have mono : ∀ v d, flatD d = true → DR K F v d → DR K (upd F l (.lst (xs ++ [.int c]))) v d := fun v d h q => (flat_DR h q).mono sm
  have monos : ∀ {v d}, flatDs d = true → DRs K F v d → DRs K (upd F l (.lst (xs ++ [.int c]))) v d := fun h q => (flat_DRs h q).mono sm
  have fl : ∀ {j : Nat} {s : Slot}, j ≠ i → env[j]? = some s → flatO s = true := fun {j s} hj q => by
    have : (env.set i .un)[j]? = some s := by rw [List.getElem?_set_ne (Ne.symm hj)]; exact q
    exact List.all_eq_true.mp f3 s (List.mem_of_getElem? this)
  have key : ∀ {j : Nat} {s : Slot}, (env.set i (.sh (.tup (ds.set k (.lst (es ++ [.int c]))))))[j]? = some s → (j = i ∧ s = .sh (.tup (ds.set k (.lst (es ++ [.int c]))))) ∨ (j ≠ i ∧ env[j]? = some s) := fun {j s} q => by
    by_cases hj : j = i
    · subst hj
      rw [List.getElem?_set_self hi] at q
      cases q
      exact .inl ⟨rfl, rfl⟩
    · rw [List.getElem?_set_ne (Ne.symm hj)] at q
      exact .inr ⟨hj, q⟩
  have ow : ∀ {j : Nat} {d : D}, (env.set i (.sh (.tup (ds.set k (.lst (es ++ [.int c]))))))[j]? = some (.ow d) → j ≠ i ∧ env[j]? = some (.ow d) := fun {j d} q => by
    rcases key q with ⟨_, z⟩ | z
    · cases z
    · exact z
  refine ⟨⟨fun a o q => ?_, by rw [List.length_set]; exact r.rel.len, fun j d q => ?_, fun j d q => ?_, fun j j2 d d2 a q1 q2 => r.rel.sep j j2 d d2 a (ow q1).2 (ow q2).2, fun j a q => ?_⟩, ⟨fun a o q => ?_, fun a o q => ?_, fun a o q => ?_, fun a o q => ?_⟩, fun j d a q1 q2 => r.own j d a (ow q1).2 q2⟩
  · by_cases ha : a = l
    · subst ha; rw [upd_same] at q ⊢; exact q
    · rw [upd_ne ha] at q ⊢; exact r.rel.sub _ _ q
  · rcases key q with ⟨z1, z⟩ | ⟨hj, z⟩
    · cases z
      subst z1
      refine ⟨_, el, .tup ?_ (DRs_setk mono (.lst upd_same ((monos f1 rx).app (.cons (.int c) .nil))) rs f2 ek)⟩
      rcases qt with ⟨o, n, q⟩ | q
      · exact .inl ⟨o, n, by
          rw [upd_ne fun z => by rw [z, hl] at q; cases q]
          exact q⟩
      · exact .inr q
    · obtain ⟨v, a, b⟩ := r.rel.sh j d z
      exact ⟨v, a, mono _ _ (fl hj z) b⟩
  · obtain ⟨hj, z⟩ := ow q
    have hf := fl hj z
    obtain ⟨l', a, f', o'⟩ := r.rel.ow j d z
    have hne : l' ≠ l := fun w => by rw [w, hl] at f'; cases f'
    refine ⟨l', a, by rw [upd_ne hne]; exact f', ?_⟩
    cases d <;> first | exact (False.elim o') | skip
    · obtain ⟨ys, h, rr⟩ := o'
      exact ⟨ys, by rw [upd_ne hne]; exact h, monos hf rr⟩
    all_goals cases hf
  · rcases key q with ⟨_, z⟩ | ⟨hj, z⟩
    · cases z
    · exact r.rel.ex j a z
  · rw [upd_ne (ne_of_none q n0)]; exact r.ext.hh _ _ q
  · rw [upd_ne (ne_of_none q f0)]; exact r.ext.ff _ _ q
  · by_cases ha : a = l
    · subst ha; rw [upd_same] at q ⊢; exact q
    · rw [upd_ne ha] at q ⊢; exact r.ext.fh _ _ q
  · by_cases ha : a = l
    · subst ha; exact .inl n0
    · rw [upd_ne ha] at q; exact r.ext.nw _ _ q
theorem svsL_thaw {i k : Nat} {c : Int} {a : Expr} {ss : List Stmt} {g : Stx} {p1 p2 apos cpos : Pos} {j1 j2 : Nat} (ha : PE X a (tVar i)) (h2 : SVsL X W ss g)
    (hbase : attributeBase (.Subscript a (.Constant (.int (k : Int)) j1 p1) p2) "append" X.env (eval (.Subscript a (.Constant (.int (k : Int)) j1 p1) p2) X.env) = eval (.Subscript a (.Constant (.int (k : Int)) j1 p1) p2) X.env := by rfl) {p3 : Pos}
    (hfew : ((backTo cpos (starEach [.Constant (.int c) j2 p3] X.env)).all (fun x => !x.1) && (backToKw cpos (keywordEach [] X.env)).all (fun x => x.1.isSome)
      && decide (([.Constant (.int c) j2 p3] : List Expr).length + ([] : List Keyword).length + (if ([] : List Keyword).isEmpty then 0 else 1) < 30)) = true := by rfl)
    (hline : (apos.endLine == cpos.line) = true := by rfl) (hsw : swapsWith (.Call (.Attribute (.Subscript a (.Constant (.int (k : Int)) j1 p1) p2) "append" apos) [.Constant (.int c) j2 p3] [] cpos) none pos.line X.env = pure false := by rfl) :
    SVsL X W (.Expr (.Call (.Attribute (.Subscript a (.Constant (.int (k : Int)) j1 p1) p2) "append" apos) [.Constant (.int c) j2 p3] [] cpos) pos :: ss) (sSeq (sThaw i k c) g) :=
  (pss_cons (ps_expr (pe_bm PySem.F.plainAttrs_list PySem.F.slot_list_append PySem.F.type_list_append mt_append (pe_ix ix_tup ha pe_int (fun _ _ => rfl)) (pa_cons pe_int pa_nil) hbase hfew hline) hsw) h2).imp fun E σ H z => by
  obtain ⟨F0, H0, F, env, nl, r, z⟩ := z
  unfold sSeq at z
  rcases thaw_nx i k c env with q | ⟨ds, es, e, ek, hf, hlen, q⟩
  · rw [q] at z; exact z.elim
  · rw [q] at z
    obtain ⟨v, el, dr⟩ := r.rel.sh i _ e
    rw [Bool.and_eq_true, Bool.and_eq_true] at hf
    cases dr with
    | tup qt rs =>
      rename_i t vs
      obtain ⟨u, eu, du⟩ := rs.get ek
      cases du with
      | lst ql rx =>
        rename_i l xs
        have hk : k < vs.length := (List.getElem?_eq_some_iff.mp eu).1
        refine ⟨.ref t, el, t, vs, (k : Int), .ref l, rfl, rfl, sameT r.rel.sub qt.t, ?_, .inl ⟨rfl, xs, .of (r.rel.sub _ _ ql)⟩, l, xs, .int c, rfl, rfl, r.rel.sub _ _ ql, by rw [sizeLine_eq, rx.len]; exact hlen, ?_⟩
        · have : L2.atI vs (k : Int) = vs[k]? := by
            unfold L2.atI L2.ixN
            rw [if_pos (by omega), if_pos (by omega), Int.toNat_natCast]
            rfl
          rw [this]; exact eu
        · exact ⟨F0, H0, _, _, nl, r.thaw nl e el qt rs eu ql rx hf.1.1 hf.1.2 hf.2, z⟩
end
section
variable {P : Program} {w : World} {K : PySem.W.Frag} {mg : Str → Option Value} {base : Heap} {F H F1 H1 : Hp}
def mgF (F F1 : Hp) : Hp := fun a => match F a with
  | some o => some o
  | none => F1 a
theorem mgF_some {a : Addr} {o : HO} (h : F a = some o) : mgF F F1 a = some o := by unfold mgF; rw [h]
theorem mgF_none {a : Addr} (h : F a = none) : mgF F F1 a = F1 a := by unfold mgF; rw [h]
theorem mgF_same (s : Same F H) (x : Ext (noLst F) H F1 H1) : Same F1 (mgF F F1) := fun a o q => by
  cases h : F a with
  | none => rw [mgF_none h]; exact q
  | some o' =>
    rw [mgF_some h]
    have a1 := x.hh _ _ (s _ _ h)
    have a2 := x.fh _ _ q
    rw [a1] at a2
    exact a2
theorem mgF_ext (s : Same F H) (x : Ext (noLst F) H F1 H1) : Ext F H (mgF F F1) H1 := by
  refine ⟨x.hh, fun a o q => mgF_some q, fun a o q => ?_, fun a o q => ?_⟩
  · cases h : F a with
    | none => rw [mgF_none h] at q; exact x.fh _ _ q
    | some o' => rw [mgF_some h] at q; cases q; exact x.hh _ _ (s _ _ h)
  · cases h : F a with
    | none =>
      rw [mgF_none h] at q
      rcases x.nw _ _ q with y | y
      · exact .inl y
      · have := noLst_same F a _ y
        rw [h] at this
        cases this
    | some o' => rw [mgF_some h] at q; cases q; exact .inr rfl
def noBo : Out R → Out R
  | .ok (.bo _) => .st
  | o => o
def gFunL (n : Nat) (body : Stx) (ds : List D) : Out R := if flatDs ds = true then noBo (gFun n body ds) else .st
theorem fn_okL {x qual : Str} {st : Stmt} {f : Addr} {fd : FuncData} {N ps : List Str} {k : Nat} {body : Stx} (Fn : Fun K x qual st f fd) (S : FnScope N ps (defScope st)) (hl : ps.length ≤ N.length)
    (hb : ∀ (cdv : Value) (A : Around) (outer : List PySem.Env) (s : Shared) (H : Hp) (E : XK), Room k (A.deeper (envOfC qual (defScope st) s.heap.objs.size f cdv)) →
      SVsL (cxOf (L2.CX P w) P w K mg base N qual (defScope st) f cdv A outer s H E) (fun cls d _ H => E cls d H) (defBody st) body) :
    FnG P w K mg base (k + 1) f fd ps (gFunL N.length body) := by
  refine Fn.okX S (fun vs H Q E h => ?_) (fun cdv A outer s H vs Q E hr h => ?_)
  · obtain ⟨_, _, _, e, _⟩ := h
    exact e
  · obtain ⟨F', ds, sf, e, rs, z⟩ := h
    unfold gFunL at z
    by_cases fd : flatDs ds = true
    rotate_left
    · rw [if_neg fd] at z; exact z.elim
    rw [if_pos fd] at z
    refine ⟨_, hb cdv A outer s H E hr, noLst F', H, noLst F', _, noL_noLst F', srel0 ((noLst_same F').trans sf) (flat_DRs fd rs) (by omega), ?_⟩
    unfold gFun outS at z
    cases e2 : body (env0 N.length ds) <;> simp only [e2, noBo] at z
    · exact fun F1 H1 σ1 r1 => z _ H1 .non (mgF_ext sf r1.ext) .non
    · rename_i r
      intro F1 H1 v x q
      cases r with
      | cl d => exact z _ H1 v (mgF_ext sf x) (DR.mono (mgF_same sf x) q)
      | ow d =>
        obtain ⟨l, rfl, n, fl, o⟩ := q
        refine z _ H1 _ (mgF_ext sf x) ⟨l, rfl, n, by rw [mgF_none (sf.free n)]; exact fl, ?_⟩
        cases d <;> first | exact (False.elim o) | skip
        · obtain ⟨xs, h, rr⟩ := o
          exact ⟨xs, h, rr.mono (mgF_same sf x)⟩
        · obtain ⟨xs, h, rr⟩ := o
          exact ⟨xs, h, rr.mono (mgF_same sf x)⟩
        · obtain ⟨xs, h, rr⟩ := o
          exact ⟨xs, h.mono (mgF_same sf x) rfl, rr.mono (mgF_same sf x)⟩
      | bo d => exact z.elim
    · exact fun F1 H1 σ1 cls r1 m => z _ H1 cls (mgF_ext sf r1.ext) m
end
end Fs

set_option maxHeartbeats 4000000
namespace Fs
open PySem PySem.Spec PyProof.Rows L2

/-! ### a zip whose pair is still out, over lists and tuples -/
section
variable {P : Program} {w : World} {A : Around} {E : Value → Shared → Prop} {s : Shared} {z TI TO i1 i2 : Addr} {fp1 fp2 : List Addr} {n1 n2 i : Nat} {P1 P2 : Nat → Value → Prop} {St1 St2 : Nat → Heap → Prop}
theorem heldA_item {T : Addr} {f : Bool} {oT : Obj} {Q : Value → Shared → Prop} (S : ZipSep2 z TI TO i1 i2 fp1 fp2) (D1 : Draws P w A i1 fp1 n1 P1 St1) (D2 : Draws P w A i2 fp2 n2 P2 St2)
    (hz : IsZipHeld s.heap z TI TO T f) (hT : s.heap.get? T = some oT) (hTI : IsTupOf2 s.heap TI (.ref i1) (.ref i2)) (st1 : St1 i s.heap) (st2 : St2 i s.heap) (l1 : i < n1) (l2 : i < n2)
    (hQ : ∀ x1 x2 h' tk, P1 i x1 → P2 i x2 → IsZipHeld h' z TI TO T true → St1 (i + 1) h' → St2 (i + 1) h' → IsTupOf2 h' s.heap.objs.size x1 x2 → (∀ c o, c ≠ z → c ≠ i1 → c ≠ i2 → s.heap.get? c = some o → h'.get? c = some o) → Q (.ref s.heap.objs.size) { s with heap := h', toks := tk }) :
    wpAny (model P w) A (Builtin.«zip.__next__» ⟨[.ref z], []⟩) (fun fin s' => ∃ v, fin = .done (.ret v) ∧ Q v s') E s := by
  obtain ⟨g0, gg, gd, tk0, os⟩ := s
  show wpAny _ _ (field (.ref z) 2 >>= _) _ _ _; refine wpAny_bind (wpAny_field hz rfl (x := .bool false) rfl ?_)
  show wpAny _ _ (field (.ref z) 3 >>= _) _ _ _; refine wpAny_bind (wpAny_field hz rfl (x := .ref TI) rfl (wpAny_bind (wpAny_seqItems hTI rfl ?_)))
  show wpAny _ _ (Builtin.SmallTypes.ownedTupleIsFree (.ref z) >>= _) _ _ _; refine wpAny_bind (wpAny_tupleHeld_zip hz hT fun h1 hz1 hs1 => ?_)
  simp only [Bool.false_eq_true, if_false]; refine wpAny_bind ?_
  rw [← Array.forIn_toList]; simp only [List.forIn_cons, List.forIn_nil]
  refine wpAny_bind (wpAny_bind (wpAny_holding ?_)); show wpAny _ _ (Builtin.SmallTypes.nextOf (.ref i1) >>= _) _ _ _
  refine wpAny_bind (D1.item i _ _ _ l1 (D1.over st1 hs1 S.zf1) fun x1 h2 tk1 p1 sn1 hs2 => wpAny_pure (wpAny_pure ?_))
  replace hs2 : Heap.SameBut i1 h1 h2 := hs2
  refine wpAny_bind (wpAny_bind (wpAny_holding ?_)); show wpAny _ _ (Builtin.SmallTypes.nextOf (.ref i2) >>= _) _ _ _
  refine wpAny_bind (D2.item i _ _ _ l2 (D2.over (D2.over st2 hs1 S.zf2) hs2 S.sep1_2) fun x2 h3 tk2 p2 sn2 hs3 => wpAny_pure (wpAny_pure (wpAny_pure ?_)))
  replace hs3 : Heap.SameBut i2 h2 h3 := hs3
  show wpAny _ _ (newTuple [x1, x2] >>= _) _ _ _; refine wpAny_bind (wpAny_newTuple ?_)
  have hsz : h3.objs.size = g0.objs.size := (hs3.1.trans hs2.1).trans hs1.1
  have hz3 : IsZipHeld h3 z TI TO T true := hs3.extBut _ _ S.zi2 (hs2.extBut _ _ S.zi1 hz1)
  have kk : ∀ c o, c ≠ z → c ≠ i1 → c ≠ i2 → g0.get? c = some o → h3.get? c = some o := fun c o c1 c2 c3 e => hs3.extBut _ _ c3 (hs2.extBut _ _ c2 (hs1.extBut _ _ c1 e))
  have s13 : St1 (i + 1) h3 := D1.over sn1 hs3 S.sep2_1
  have hp : IsTupOf2 (h3.push { cls := .type "tuple", data := .seq #[x1, x2] }) h3.objs.size x1 x2 := Heap.get?_push_size _ rfl
  refine wpAny_pure ⟨.ref h3.objs.size, rfl, ?_⟩
  rw [hsz] at hp ⊢
  exact hQ x1 x2 _ tk2 p1 p2 (Heap.get?_push_of_some _ hz3) (D1.frame _ _ _ s13 fun b _ o e => Heap.get?_push_of_some _ e) (D2.frame _ _ _ sn2 fun b _ o e => Heap.get?_push_of_some _ e) hp fun c o c1 c2 c3 e => Heap.get?_push_of_some _ (kk c o c1 c2 c3 e)
theorem heldA_end {T : Addr} {f : Bool} {oT : Obj} {Q : PySem.Fin → Shared → Prop} (S : ZipSep2 z TI TO i1 i2 fp1 fp2) (D1 : Draws P w A i1 fp1 n1 P1 St1) (D2 : Draws P w A i2 fp2 n2 P2 St2)
    (hz : IsZipHeld s.heap z TI TO T f) (hT : s.heap.get? T = some oT) (hTI : IsTupOf2 s.heap TI (.ref i1) (.ref i2)) (st1 : St1 i s.heap) (st2 : St2 i s.heap) (l1 : i ≤ n1) (l2 : i ≤ n2) (he : i = n1 ∨ i = n2)
    (hE : ∀ h' tk e, (∀ c o, c ≠ z → c ≠ i1 → c ≠ i2 → s.heap.get? c = some o → h'.get? c = some o) → (∃ o, h'.get? e = some o ∧ o.cls = .type "StopIteration") → E (.ref e) { s with heap := h', toks := tk }) :
    wpAny (model P w) A (Builtin.«zip.__next__» ⟨[.ref z], []⟩) Q E s := by
  obtain ⟨g0, gg, gd, tk0, os⟩ := s
  show wpAny _ _ (field (.ref z) 2 >>= _) _ _ _; refine wpAny_bind (wpAny_field hz rfl (x := .bool false) rfl ?_)
  show wpAny _ _ (field (.ref z) 3 >>= _) _ _ _; refine wpAny_bind (wpAny_field hz rfl (x := .ref TI) rfl (wpAny_bind (wpAny_seqItems hTI rfl ?_)))
  show wpAny _ _ (Builtin.SmallTypes.ownedTupleIsFree (.ref z) >>= _) _ _ _; refine wpAny_bind (wpAny_tupleHeld_zip hz hT fun h1 hz1 hs1 => ?_)
  simp only [Bool.false_eq_true, if_false]; refine wpAny_bind ?_
  rw [← Array.forIn_toList]; simp only [List.forIn_cons, List.forIn_nil]
  refine wpAny_bind (wpAny_bind (wpAny_holding ?_)); show wpAny _ _ (Builtin.SmallTypes.nextOf (.ref i1) >>= _) _ _ _
  by_cases c1 : i < n1
  · have e2 : i = n2 := by omega
    refine wpAny_bind (D1.item i _ _ _ c1 (D1.over st1 hs1 S.zf1) fun x1 h2 tk1 p1 sn1 hs2 => wpAny_pure (wpAny_pure ?_))
    replace hs2 : Heap.SameBut i1 h1 h2 := hs2
    refine wpAny_bind (wpAny_bind (wpAny_holding ?_)); show wpAny _ _ (Builtin.SmallTypes.nextOf (.ref i2) >>= _) _ _ _
    refine wpAny_bind (D2.done _ _ _ (by rw [← e2]; exact D2.over (D2.over st2 hs1 S.zf2) hs2 S.sep1_2) fun q e hq hx => ?_)
    exact hE q tk1 e (fun c o d1 d2 d3 y => hq _ _ d3 (hs2.extBut _ _ d2 (hs1.extBut _ _ d1 y))) hx
  · have e1 : i = n1 := by omega
    refine wpAny_bind (D1.done _ _ _ (by rw [← e1]; exact D1.over st1 hs1 S.zf1) fun q e hq hx => ?_)
    exact hE q tk0 e (fun c o d1 d2 d3 y => hq _ _ d2 (hs1.extBut _ _ d1 y)) hx
theorem pyNext_heldA {T : Addr} {f : Bool} {oT : Obj} {Q : Option Value → Shared → Prop} (S : ZipSep2 z TI TO i1 i2 fp1 fp2) (D1 : Draws P w A.in1 i1 fp1 n1 P1 St1) (D2 : Draws P w A.in1 i2 fp2 n2 P2 St2)
    (hz : IsZipHeld s.heap z TI TO T f) (hT : s.heap.get? T = some oT) (hTI : IsTupOf2 s.heap TI (.ref i1) (.ref i2)) (st1 : St1 i s.heap) (st2 : St2 i s.heap) (l1 : i < n1) (l2 : i < n2)
    (hQ : ∀ x1 x2 h' tk, P1 i x1 → P2 i x2 → IsZipHeld h' z TI TO T true → St1 (i + 1) h' → St2 (i + 1) h' → IsTupOf2 h' s.heap.objs.size x1 x2 → (∀ c o, c ≠ z → c ≠ i1 → c ≠ i2 → s.heap.get? c = some o → h'.get? c = some o) → Q (some (.ref s.heap.objs.size)) { s with heap := h', toks := tk }) :
    wpAny (model P w) A (pyNext (.ref z)) Q E s := by
  have ty : s.TypeIs (.ref z) "zip" := ⟨_, hz, rfl⟩
  unfold pyNext
  exact wpAny_bind (wpAny_attempt (wpAny_callSpecial?_slot (name := Str.ofString "__next__") ty F.slot_zip_next (wpAny_call_entry F.slot_zip_next ty F.entry_zip_next (heldA_item S D1 D2 hz hT hTI st1 st2 l1 l2 fun x1 x2 h' tk y1 y2 b1 b2 b3 b4 b5 => wpAny_pure (hQ x1 x2 h' tk y1 y2 b1 b2 b3 b4 b5)) (F.args_zip_next_1 _))))
theorem pyNext_heldA_end {T : Addr} {f : Bool} {oT : Obj} {Q : Option Value → Shared → Prop} (S : ZipSep2 z TI TO i1 i2 fp1 fp2) (D1 : Draws P w A.in1 i1 fp1 n1 P1 St1) (D2 : Draws P w A.in1 i2 fp2 n2 P2 St2)
    (hz : IsZipHeld s.heap z TI TO T f) (hT : s.heap.get? T = some oT) (hTI : IsTupOf2 s.heap TI (.ref i1) (.ref i2)) (st1 : St1 i s.heap) (st2 : St2 i s.heap) (l1 : i ≤ n1) (l2 : i ≤ n2) (he : i = n1 ∨ i = n2)
    (hQ : ∀ h' tk, (∀ c o, c ≠ z → c ≠ i1 → c ≠ i2 → s.heap.get? c = some o → h'.get? c = some o) → Q none { s with heap := h', toks := tk }) :
    wpAny (model P w) A (pyNext (.ref z)) Q E s := by
  have ty : s.TypeIs (.ref z) "zip" := ⟨_, hz, rfl⟩
  unfold pyNext
  refine wpAny_bind (wpAny_attempt (wpAny_callSpecial?_slot (name := Str.ofString "__next__") ty F.slot_zip_next (wpAny_call_entry F.slot_zip_next ty F.entry_zip_next (heldA_end S D1 D2 hz hT hTI st1 st2 l1 l2 he fun h' tk e hk hx => ?_) (F.args_zip_next_1 _))))
  obtain ⟨o, ho, hcl⟩ := hx
  exact wpAny_bind (wpAny_isInstance (T := "StopIteration") (b := true) ⟨o, ho, hcl⟩ isSubtype_stop (wpAny_pure (hQ _ _ hk)))
end
theorem IsA.keep {t : Bool} {h h' : Heap} {a : Addr} {its : Array Value} (x : IsA t h a its) (e : ∀ o, h.get? a = some o → h'.get? a = some o) : IsA t h' a its := by
  cases t
  · obtain ⟨o, g, r⟩ := x
    exact ⟨o, e o g, r⟩
  · obtain ⟨o, g, r⟩ := x
    exact ⟨o, e o g, r⟩
theorem IsA.obj {t : Bool} {h : Heap} {a : Addr} {its : Array Value} (x : IsA t h a its) : ∃ o, h.get? a = some o := by
  cases t
  · obtain ⟨o, g, r⟩ := x
    exact ⟨o, g⟩
  · obtain ⟨o, g, r⟩ := x
    exact ⟨o, g⟩
/-- what dict() may be told: a zip over lists and tuples -/
theorem pairs_zipA {P : Program} {w : World} {t u : Bool} {a b p : Nat} (ha : a < p) (hb : b < p) (xs ys : Array Value) :
    PairArg P w "zip" (p + 4) [p + 4, p + 2, p + 3, p, p + 1, a, b] [p + 4, p + 3, p, p + 1] (min xs.size ys.size) (fun i k v => xs[i]? = some k ∧ ys[i]? = some v)
      (fun h => IsZip h (p + 4) (p + 2) (p + 3) .none ∧ IsTupOf2 h (p + 2) (.ref p) (.ref (p + 1)) ∧ (∃ x y, IsTupOf2 h (p + 3) x y) ∧ AtA t h p a 0 ∧ AtA u h (p + 1) b 0 ∧ IsA t h a xs ∧ IsA u h b ys) where
  type := fun s ok => ⟨_, ok.1, rfl⟩
  notDict := by decide
  keep := fun h h' ok hk => by
    obtain ⟨hz, hTI, ⟨x, y, hTO⟩, h1, h2, q1, q2⟩ := ok
    exact ⟨hk _ _ hz, hk _ _ hTI, ⟨x, y, hk _ _ hTO⟩, h1.keep fun o e => hk _ o e, h2.keep fun o e => hk _ o e, q1.keep fun o e => hk _ o e, q2.keep fun o e => hk _ o e⟩
  there := fun h ok c hc => by
    obtain ⟨hz, hTI, ⟨x, y, hTO⟩, h1, h2, q1, q2⟩ := ok
    obtain ⟨o1, g1, _⟩ := h1.obj
    obtain ⟨o2, g2, _⟩ := h2.obj
    obtain ⟨o3, g3⟩ := q1.obj
    obtain ⟨o4, g4⟩ := q2.obj
    simp only [List.mem_cons, List.not_mem_nil, or_false] at hc
    rcases hc with rfl | rfl | rfl | rfl | rfl | rfl | rfl <;> first | exact ⟨_, hz⟩ | exact ⟨_, hTI⟩ | exact ⟨_, hTO⟩ | exact ⟨_, g1⟩ | exact ⟨_, g2⟩ | exact ⟨_, g3⟩ | exact ⟨_, g4⟩
  sub := fun c hc => by
    simp only [List.mem_cons, List.not_mem_nil, or_false] at hc ⊢
    rcases hc with e | e | e | e <;> simp [e]
  noKeys := fun A s Q E hA ok h => getAttrOr_miss_zip ok.1 rfl rfl rfl zip_no_keys (by decide +kernel) hA h
  iter := fun A s d Q E hA ok hd hdf h => by
    obtain ⟨hz, hTI, ⟨x, y, hTO⟩, h1, h2, q1, q2⟩ := ok
    simp only [List.mem_cons, List.not_mem_nil, or_false, not_or] at hdf
    obtain ⟨dz, dTI, dTO, d1, d2, da, db⟩ := hdf
    have S := sep_at ha hb
    refine wpAny_pyIter_zip hz (h (p + 4) [p + 4, p + 3, p, p + 1] (fun i h => i ≤ min xs.size ys.size ∧ IsTupOf2 h (p + 2) (.ref p) (.ref (p + 1)) ∧ (AtA t h p a i ∧ IsA t h a xs) ∧ (AtA u h (p + 1) b i ∧ IsA u h b ys) ∧
      ((IsZip h (p + 4) (p + 2) (p + 3) .none ∧ ∃ x y, IsTupOf2 h (p + 3) x y) ∨ ∃ T f oT, IsZipHeld h (p + 4) (p + 2) (p + 3) T f ∧ h.get? T = some oT ∧ T ≠ p + 4 ∧ T ≠ p ∧ T ≠ p + 1 ∧ T ≠ d)) s.heap s.toks ?_
      ⟨Nat.zero_le _, hTI, ⟨h1, q1⟩, ⟨h2, q2⟩, .inl ⟨hz, x, y, hTO⟩⟩ (fun _ _ e => e) fun c hc => .inl hc)
    exact {
      off := fun hm => by
        simp only [List.mem_cons, List.not_mem_nil, or_false] at hm
        rcases hm with e | e | e | e <;> first | exact dz e | exact dTO e | exact d1 e | exact d2 e
      frame := fun i g g' st hk => by
        obtain ⟨hi, hTI, ⟨h1, q1⟩, ⟨h2, q2⟩, hz⟩ := st
        refine ⟨hi, hk _ _ (Ne.symm dTI) hTI, ⟨h1.keep fun o e => hk _ o (Ne.symm d1) e, q1.keep fun o e => hk _ o (Ne.symm da) e⟩, ⟨h2.keep fun o e => hk _ o (Ne.symm d2) e, q2.keep fun o e => hk _ o (Ne.symm db) e⟩, ?_⟩
        rcases hz with ⟨hz, x, y, hTO⟩ | ⟨T, f, oT, hz, hT, r1, r2, r3, r4⟩
        · exact .inl ⟨hk _ _ (Ne.symm dz) hz, x, y, hk _ _ (Ne.symm dTO) hTO⟩
        · exact .inr ⟨T, f, oT, hk _ _ (Ne.symm dz) hz, hk _ _ r4 hT, r1, r2, r3, r4⟩
      item := fun i s1 Q1 E1 hi st hds hQ => by
        obtain ⟨_, hTI, st1, st2, hz⟩ := st
        have l1 : i < xs.size := by omega
        have l2 : i < ys.size := by omega
        have D1 := draws_A (P := P) (w := w) (A := A.in1) t (by simpa using hA) p a (ne_A (by omega)) xs
        have D2 := draws_A (P := P) (w := w) (A := A.in1) u (by simpa using hA) (p + 1) b (ne_A (by omega)) ys
        rcases hz with ⟨hz, x, y, hTO⟩ | ⟨T, f, oT, hz, hT, r1, r2, r3, r4⟩
        · refine wpAny_pyNext_zipD2_item S D1 D2 hz hTI hTO st1 st2 l1 l2 fun v1 v2 h' tk y1 y2 a1 a2 s1' s2' a5 a6 hk => ?_
          have zl : p + 4 < s1.heap.objs.size := Heap.lt_size hz
          exact hQ s1.heap.objs.size v1 v2 h' tk ⟨y1, y2⟩ (.inl ⟨_, a5, rfl, _, rfl⟩) ⟨by omega, hk _ _ (ne_A (by omega)) (ne_A (by omega)) (ne_A (by omega)) (ne_A (by omega)) hTI, s1', s2', .inr ⟨s1.heap.objs.size, false, _, a1, a5, ne_A (by omega), ne_A (by omega), ne_A (by omega), Nat.ne_of_gt hds⟩⟩
            fun c o hc e => hk c o (fun x => hc (by simp [x])) (fun x => hc (by simp [x])) (fun x => hc (by simp [x])) (fun x => hc (by simp [x])) e
        · refine pyNext_heldA S D1 D2 hz hT hTI st1 st2 l1 l2 fun v1 v2 h' tk y1 y2 a1 s1' s2' a5 hk => ?_
          exact hQ s1.heap.objs.size v1 v2 h' tk ⟨y1, y2⟩ (.inl ⟨_, a5, rfl, _, rfl⟩) ⟨by omega, hk _ _ (ne_A (by omega)) (ne_A (by omega)) (ne_A (by omega)) hTI, s1', s2', .inr ⟨T, true, oT, a1, hk _ _ r1 r2 r3 hT, r1, r2, r3, r4⟩⟩
            fun c o hc e => hk c o (fun x => hc (by simp [x])) (fun x => hc (by simp [x])) (fun x => hc (by simp [x])) e
      done := fun s1 Q1 E1 st hQ => by
        obtain ⟨hi, hTI, st1, st2, hz⟩ := st
        have D1 := draws_A (P := P) (w := w) (A := A.in1) t (by simpa using hA) p a (ne_A (by omega)) xs
        have D2 := draws_A (P := P) (w := w) (A := A.in1) u (by simpa using hA) (p + 1) b (ne_A (by omega)) ys
        rcases hz with ⟨hz, x, y, hTO⟩ | ⟨T, f, oT, hz, hT, r1, r2, r3, r4⟩
        · exact wpAny_pyNext_zipD2_end S D1 D2 hz hTI hTO st1 st2 (by omega) (by omega) (by omega) fun h' tk hk => hQ h' tk fun c o hc e => hk c o (fun x => hc (by simp [x])) (fun x => hc (by simp [x])) (fun x => hc (by simp [x])) (fun x => hc (by simp [x])) e
        · exact pyNext_heldA_end S D1 D2 hz hT hTI st1 st2 (by omega) (by omega) (by omega) fun h' tk hk => hQ h' tk fun c o hc e => hk c o (fun x => hc (by simp [x])) (fun x => hc (by simp [x])) (fun x => hc (by simp [x])) e }
end Fs
namespace Fs
open PySem PySem.Spec PyProof.Rows L2
/-! ### dict(zip(..)) -/
def tDictZip (K : PySem.W.Frag) (ta : TA) : TE := fun σ H Q => ta σ H fun vs H1 => ∃ (a b : Addr) (t u : Bool) (ks : List L2.Key) (ys : List V), vs = [.ref a, .ref b] ∧ SqA K t H1 a (ks.map kV) ∧ SqA K u H1 b ys ∧ ks.length ≤ 1000000 ∧ ∀ q, H1 q = none → Q (.ref q) (upd H1 q (.dK (mergeK [] (ks.zip ys))))
theorem kv_zip : ∀ {ks : List L2.Key} {ys : List V} {jts : List Value}, Vals ys jts → KV (ks.zip ys) (ks.zip jts)
  | [], _, _, _ => by rw [List.zip_nil_left, List.zip_nil_left]; exact .nil
  | _ :: _, _, _, .nil => by rw [List.zip_nil_right, List.zip_nil_right]; exact .nil
  | _ :: _, _, _, .cons r t => .cons ⟨rfl, r⟩ (kv_zip t)
section
variable {X : Cx} {W : WX} {pos : Pos}
theorem pe_dictZip {e e2 : Expr} {ta : TA} {p p2 pos2 : Pos} (hc : X.calm = true) (hg : Gl X "dict") (hm : X.mg "dict" = none) (hg2 : Gl X "zip") (hm2 : X.mg "zip" = none) (ha : PA X [e, e2] ta)
    (hs : starEach [e, e2] X.env = (false, eval e X.env) :: starEach [e2] X.env := by rfl) (hpl : (backTo pos2 (starEach [e2] X.env)).any (·.1) = false := by rfl)
    (hs2 : starEach [.Call (.Name "zip" p2) [e, e2] [] pos2] X.env = (false, eval (.Call (.Name "zip" p2) [e, e2] [] pos2) X.env) :: starEach [] X.env := by rfl) :
    PE X (.Call (.Name "dict" p) [.Call (.Name "zip" p2) [e, e2] [] pos2] [] pos) (tDictZip X.K ta) := by
  refine ⟨fun pins s σ H Q I h => ?_⟩
  refine wpAny_Call_Name_kw (ld_blt I hg hm (by decide +kernel : bootBuiltins "dict" = some (.type "dict")) ?_)
  refine PyProof.Rows.callWith_type1 ?_ hs2 rfl
  rw [hs2]
  show wpAny _ _ (spliced ((false, eval (.Call (.Name "zip" p2) [e, e2] [] pos2) X.env) :: backTo pos (starEach [] X.env))) _ _ s
  refine Calls.spliced_cons ?_
  refine wpAny_Call_Name_kw (ld_blt I hg2 hm2 PyProof.Rows.boot_zip (PyProof.Rows.callWith_type1 (thn (ha.run pos2 pins s σ H _ I h) fun us s1 ⟨vs, H1, I1, r1, q1⟩ => ?_) hs hpl))
  obtain ⟨a, b, t, u, ks, ys, rfl, qx, qy, hl, q⟩ := q1
  obtain ⟨u1, u2, rfl, e1, e2⟩ := Vals.two r1
  obtain rfl : u1 = Value.ref a := e1
  obtain rfl : u2 = Value.ref b := e2
  obtain ⟨its, rv, p1, la⟩ := sqA_get I1 qx
  obtain ⟨jts, rj, p2', lb⟩ := sqA_get I1 qy
  have li := rv.length
  rw [List.length_map] at li
  refine zip_begins2 (begins_A t a its.toArray) (begins_A u b jts.toArray) p1 p2' fun h' hz hTI hTO g1 g2 hsz hk => ?_
  refine Calls.spliced_nil ?_
  have hh : X.A.handled = none := by simp [I1.ok.hd hc]
  have I2 : Inv X pins σ H1 { s1 with heap := h' } := I1.kept (t' := s1.toks) hk
  have ok : IsZip h' (s1.heap.objs.size + 4) (s1.heap.objs.size + 2) (s1.heap.objs.size + 3) .none ∧ IsTupOf2 h' (s1.heap.objs.size + 2) (.ref s1.heap.objs.size) (.ref (s1.heap.objs.size + 1)) ∧ (∃ x y, IsTupOf2 h' (s1.heap.objs.size + 3) x y) ∧
      AtA t h' s1.heap.objs.size a 0 ∧ AtA u h' (s1.heap.objs.size + 1) b 0 ∧ IsA t h' a its.toArray ∧ IsA u h' b jts.toArray :=
    ⟨hz, hTI, ⟨_, _, hTO⟩, atA_new t g1, atA_new u g2, p1.keep fun o e => hk _ o e, p2'.keep fun o e => hk _ o e⟩
  have fresh : ∀ c, c ∈ [s1.heap.objs.size + 4, s1.heap.objs.size + 3, s1.heap.objs.size, s1.heap.objs.size + 1] → FpOk X pins H1 c := fun c hcm => by
    have hle : s1.heap.objs.size ≤ c := by
      simp only [List.mem_cons, List.not_mem_nil, or_false] at hcm
      rcases hcm with rfl | rfl | rfl | rfl <;> omega
    exact I1.fpOk hle (I1.hok.fresh hle)
  refine call_dict_pairs (knd := mixKind X.prog X.w) (kvs := ks.zip jts) (pairs_zipA la lb its.toArray jts.toArray) hh ok ⟨by simp [li], fun i key v hr => ?_⟩ (by show min its.toArray.size jts.toArray.size ≤ sizeLine; rw [sizeLine_eq]; simp; omega) fun h'' tk hd keep => ?_
  · obtain ⟨x1, x2⟩ := hr
    have x1' : its[i]? = some key := by simpa using x1
    have x2' : jts[i]? = some v := by simpa using x2
    obtain ⟨k, hk1, hk2⟩ : ∃ k, ks[i]? = some k ∧ RelV (kV k) key := by
      have hi : i < ks.length := by rw [li]; exact (List.getElem?_eq_some_iff.mp x1').1
      obtain ⟨w', e, r⟩ := rv.get (i := i) (x := kV ks[i]) (by rw [List.getElem?_map, List.getElem?_eq_getElem hi]; rfl)
      rw [x1'] at e
      cases e
      exact ⟨_, List.getElem?_eq_getElem hi, r⟩
    exact ⟨k, by rw [List.getElem?_zip_eq_some]; exact ⟨hk1, x2'⟩, kV_is hk2⟩
  · have kv : KV (mergeK [] (ks.zip ys)) (merged [] (ks.zip jts)) := KV.merge (kv_zip rj) .nil
    have hl2 : (mergeK [] (ks.zip ys)).length ≤ sizeLine := by
      have := length_mergeK (ks.zip ys) []
      rw [List.length_zip, List.length_nil] at this
      rw [sizeLine_eq]
      omega
    have I3 : Inv X pins σ (upd H1 h'.objs.size (.dK (mergeK [] (ks.zip ys)))) { s1 with heap := h'', toks := tk } :=
      I2.turnedNew (ch := [s1.heap.objs.size + 4, s1.heap.objs.size + 3, s1.heap.objs.size, s1.heap.objs.size + 1]) (fun c o hc e => keep c o hc e) fresh (Nat.le_refl _) (dk_new hl2 (beq_false_of_ne (Nat.ne_of_gt I2.big)) kv hd)
    exact ⟨.ref h'.objs.size, _, I3, rfl, q _ (I2.hok.fresh (Nat.le_refl _))⟩
/-! by data -/
def mergeD (m : List (L2.Key × D)) (more : List (L2.Key × D)) : List (L2.Key × D) := more.foldl (fun m p => dPut m p.1 p.2) m
def dDictZip (a b : D) : Out R := match seqD a, seqD b with
  | some ds, some es => (match intsOf ds with
    | some ns => if ns.length ≤ 1000000 then .ok (.ow (.dct (mergeD [] ((ns.map Sum.inl).zip es)))) else .st
    | none => .st)
  | _, _ => .st
def eDictZip (fs : List Sx) : Sx := fun env => match evArgs fs env with
  | .ok [a, b] => dDictZip a b
  | .ok _ => .st
  | .ex c => .ex c
  | .st => .st
theorem DRk.zipK {K : PySem.W.Frag} {F : Hp} : ∀ {ks : List L2.Key} {xs : List V} {ds : List D}, DRs K F xs ds → DRk K F (ks.zip xs) (ks.zip ds)
  | [], _, _, _ => by rw [List.zip_nil_left, List.zip_nil_left]; exact .nil
  | _ :: _, _, _, .nil => by rw [List.zip_nil_right, List.zip_nil_right]; exact .nil
  | _ :: _, _, _, .cons r t => .cons r (DRk.zipK t)
theorem DRk.mergeK {K : PySem.W.Frag} {F : Hp} : ∀ {more : List (L2.Key × V)} {es : List (L2.Key × D)} {ks : List (L2.Key × V)} {kvs : List (L2.Key × D)}, DRk K F more es → DRk K F ks kvs → DRk K F (L2.mergeK ks more) (mergeD kvs es)
  | _, _, _, _, .nil, q => q
  | _, _, _, _, @DRk.cons _ _ k v vs d ds r t, q => by
    have := DRk.mergeK t (q.put (k := k) r)
    exact this
theorem ev_dictZip {e e2 : Expr} {fs : List Sx} {p p2 pos2 : Pos} (hc : X.calm = true) (hg : Gl X "dict") (hm : X.mg "dict" = none) (hg2 : Gl X "zip") (hm2 : X.mg "zip" = none) (ha : AV X W [e, e2] fs)
    (hs : starEach [e, e2] X.env = (false, eval e X.env) :: starEach [e2] X.env := by rfl) (hpl : (backTo pos2 (starEach [e2] X.env)).any (·.1) = false := by rfl)
    (hs2 : starEach [.Call (.Name "zip" p2) [e, e2] [] pos2] X.env = (false, eval (.Call (.Name "zip" p2) [e, e2] [] pos2) X.env) :: starEach [] X.env := by rfl) :
    EV X W (.Call (.Name "dict" p) [.Call (.Name "zip" p2) [e, e2] [] pos2] [] pos) (eDictZip fs) := (pe_dictZip hc hg hm hg2 hm2 ha hs hpl hs2).imp fun σ H Q z => by
  obtain ⟨F, env, rl, z⟩ := z
  refine ⟨F, env, rl, ?_⟩
  unfold eDictZip at z
  cases ef : evArgs fs env with
  | ex c => simp only [ef] at z; exact z
  | st => simp only [ef] at z; exact z
  | ok ds =>
    simp only [ef] at z
    match ds, z with
    | [], z => exact z.elim
    | [_], z => exact z.elim
    | _ :: _ :: _ :: _, z => exact z.elim
    | [d, e], z =>
      unfold dDictZip at z
      simp only [] at z
      cases e1 : seqD d with
      | none => simp only [e1] at z; exact z.elim
      | some as =>
        cases e2 : seqD e with
        | none => simp only [e1, e2] at z; exact z.elim
        | some bs =>
          simp only [e1, e2] at z
          cases e3 : intsOf as with
          | none => simp only [e3] at z; exact z.elim
          | some ns =>
            simp only [e3] at z
            by_cases c : ns.length ≤ 1000000
            · simp only [if_pos c] at z
              intro F1 H1 vs x rs
              cases rs with
              | cons q1 rs =>
                cases rs with
                | cons q2 rs =>
                  cases rs
                  obtain ⟨a, t, xs, rfl, s1, r1⟩ := seqD_A q1 e1
                  obtain ⟨b, u, ys, rfl, s2, r2⟩ := seqD_A q2 e2
                  obtain rfl := intsOf_eq e3
                  have ex := r1.ints
                  refine ⟨a, b, t, u, ns.map Sum.inl, ys, rfl, ?_, sqA_same x.fh s2, by simpa using c, fun q hq => ?_⟩
                  · rw [List.map_map, show (kV ∘ Sum.inl : Int → V) = V.int from rfl, ← ex]
                    exact sqA_same x.fh s1
                  · have x1 := Ext.newO (o := .dK (L2.mergeK [] ((ns.map Sum.inl).zip ys))) x.fh hq
                    exact z _ _ _ (x.trans x1) ⟨q, rfl, x.hh.free hq, x.fh.free hq, _, upd_same, DRk.mergeK (DRk.zipK (r2.mono x1.ff)) .nil⟩
            · simp only [if_neg c] at z
              exact z.elim
end
end Fs
namespace Fs
open PySem PySem.Spec PyProof.Rows L2
/-! ### a < b < c < d -/
section
variable {X : Cx} {W : WX} {pos : Pos} {K : PySem.W.Frag} {mg : Str → Option Value}
def tChain3 (r r' r'' : R2) (ta tb tc td : TE) : TE := fun σ H Q => ta σ H fun x H1 => tb σ H1 fun y H2 => r x y H2 fun z H3 => ∃ k, z = .bl k ∧
  (if k = true then tc σ H3 fun v H4 => r' y v H4 fun z2 H5 => ∃ k2, z2 = .bl k2 ∧ (if k2 = true then td σ H5 fun u H6 => r'' v u H6 Q else Q (.bl false) H5) else Q (.bl false) H3)
theorem pe_chain3 {a b c d : Expr} {ta tb tc td : TE} {o1 o2 o3 : CmpOp} {r r' r'' : R2} (h1 : OpR X (compareOp o1) r) (h2 : OpR X (compareOp o2) r') (h3 : OpR X (compareOp o3) r'') (ha : PE X a ta) (hb : PE X b tb) (hc : PE X c tc) (hd : PE X d td)
    (hm : lastMarks [o1, o2, o3] [b, c, d] = false := by with_unfolding_all rfl) : PE X (.Compare a [o1, o2, o3] [b, c, d] pos) (tChain3 r r' r'' ta tb tc td) := by
  refine ⟨fun pins s σ H Q I h => Compare_chain (thn (ha.run pins s σ H _ I h) fun v s1 ⟨x, H1, I1, r1, q1⟩ => chain_link (thn (hb.run pins s1 σ H1 _ I1 q1) fun u s2 ⟨y, H2, I2, r2, q2⟩ => thn (h1 pins s2 σ H2 x y v u _ I2 r1 r2 q2) fun d1 s3 ⟨z, H3, I3, r3, k, e, q3⟩ => ?_)) hm⟩
  subst e
  cases r3
  refine wpAny_truthy_bool ?_
  cases k with
  | false => exact ite_ff ⟨.bl false, H3, I3, rfl, q3⟩
  | true =>
    refine ite_tt (chain_link (thn (hc.run pins s3 σ H3 _ I3 q3) fun w' s4 ⟨y2, H4, I4, r4, q4⟩ => thn (h2 pins s4 σ H4 y y2 u w' _ I4 r2 r4 q4) fun d2 s5 ⟨z2, H5, I5, r5, k2, e2, q5⟩ => ?_))
    subst e2
    cases r5
    refine wpAny_truthy_bool ?_
    cases k2 with
    | false => exact ite_ff ⟨.bl false, H5, I5, rfl, q5⟩
    | true => exact ite_tt (chain_last (thn (hd.run pins s5 σ H5 _ I5 q5) fun w2 s6 ⟨y3, H6, I6, r6, q6⟩ => h3 pins s6 σ H6 y2 y3 w' w2 Q I6 r4 r6 q6))
def eChain3 (φ ψ χ : D → D → Out R) (f g h k : Sx) : Sx := fun env => match f env with
  | .ok a => (match g env with
    | .ok b => (match oB (φ a.d b.d) with
      | .ok t => if t then (match h env with
        | .ok c => (match oB (ψ b.d c.d) with
          | .ok u => if u then (match k env with
            | .ok d => χ c.d d.d
            | .ex e => .ex e
            | .st => .st) else .ok (.cl (.bl false))
          | .ex e => .ex e
          | .st => .st)
        | .ex e => .ex e
        | .st => .st) else .ok (.cl (.bl false))
      | .ex e => .ex e
      | .st => .st)
    | .ex e => .ex e
    | .st => .st)
  | .ex e => .ex e
  | .st => .st
theorem tChain3_of {r r' r'' : R2} {φ ψ χ : D → D → Out R} {f g h k : Sx} (o : Op2 K r φ) (n : ∀ a b, noEx (φ a b)) (o' : Op2 K r' ψ) (n' : ∀ a b, noEx (ψ a b)) (o'' : Op2 K r'' χ) (n'' : ∀ a b, noEx (χ a b)) {σ : Sg} {H : Hp} {Q : VK}
    (z : tE K mg W (eChain3 φ ψ χ f g h k) σ H Q) : tChain3 r r' r'' (tE K mg W f) (tE K mg W g) (tE K mg W h) (tE K mg W k) σ H Q := by
  obtain ⟨F, env, rl, z⟩ := z
  refine ⟨F, env, rl, ?_⟩
  unfold eChain3 at z
  cases e : f env with
  | ex c => simp only [e] at z; exact z
  | st => simp only [e] at z; exact z
  | ok ra =>
    simp only [e] at z
    intro F1 H1 x x1 q1
    refine ⟨F1, env, rl.ext x1, ?_⟩
    cases e2 : g env with
    | ex c => simp only [e2] at z; exact fun F4 H4 cls x4 m => z F4 H4 cls (x1.trans x4) m
    | st => simp only [e2] at z; exact z
    | ok rb =>
      simp only [e2] at z
      intro F2 H2 y x2 q2
      refine o F2 H2 x y _ _ _ x2.fh (x2.dv q1.dv) q2.dv ?_
      cases e3 : φ ra.d rb.d with
      | ex c => have := n ra.d rb.d; rw [e3] at this; exact this.elim
      | st => simp only [e3, oB] at z; exact z.elim
      | ok rc =>
        simp only [e3] at z
        intro F3 H3 v x3 q3
        cases e4 : oB (.ok rc) with
        | ex c => cases oB_ex e4
        | st => simp only [e4] at z; exact z.elim
        | ok k1 =>
          simp only [e4] at z
          refine ⟨k1, oB_ok (F := F) q3 e4, ?_⟩
          have x13 := x1.trans (x2.trans x3)
          cases k1 with
          | false => rw [if_neg Bool.false_ne_true]; exact z F3 H3 _ x13 (.bl _)
          | true =>
            rw [if_pos rfl]
            simp only [if_true] at z
            refine ⟨F3, env, rl.ext x13, ?_⟩
            cases e5 : h env with
            | ex c => simp only [e5] at z; exact fun F4 H4 cls x4 m => z F4 H4 cls (x13.trans x4) m
            | st => simp only [e5] at z; exact z
            | ok rd =>
              simp only [e5] at z
              intro F4 H4 u x4 q4
              refine o' F4 H4 y u _ _ _ x4.fh ((x3.trans x4).dv q2.dv) q4.dv ?_
              cases e6 : ψ rb.d rd.d with
              | ex c => have := n' rb.d rd.d; rw [e6] at this; exact this.elim
              | st => simp only [e6, oB] at z; exact z.elim
              | ok re =>
                simp only [e6] at z
                intro F5 H5 v2 x5 q5
                cases e7 : oB (.ok re) with
                | ex c => cases oB_ex e7
                | st => simp only [e7] at z; exact z.elim
                | ok k2 =>
                  simp only [e7] at z
                  refine ⟨k2, oB_ok (F := F) q5 e7, ?_⟩
                  have x15 := x13.trans (x4.trans x5)
                  cases k2 with
                  | false => rw [if_neg Bool.false_ne_true]; exact z F5 H5 _ x15 (.bl _)
                  | true =>
                    rw [if_pos rfl]
                    simp only [if_true] at z
                    refine ⟨F5, env, rl.ext x15, ?_⟩
                    cases e8 : k env with
                    | ex c => simp only [e8] at z; exact fun F6 H6 cls x6 m => z F6 H6 cls (x15.trans x6) m
                    | st => simp only [e8] at z; exact z
                    | ok rf =>
                      simp only [e8] at z
                      intro F6 H6 u2 x6 q6
                      exact o'' F6 H6 u u2 _ _ Q x6.fh ((x5.trans x6).dv q4.dv) q6.dv (okE_okV (x15.trans x6) (n'' _ _) z)
theorem ev_chain3 {o1 o2 o3 : CmpOp} {a b c d : Expr} {r r' r'' : R2} {φ ψ χ : D → D → Out R} {f g h k : Sx} (h1 : OpR X (compareOp o1) r) (p1 : Op2 X.K r φ) (n1 : ∀ a b, noEx (φ a b)) (h2 : OpR X (compareOp o2) r') (p2 : Op2 X.K r' ψ) (n2 : ∀ a b, noEx (ψ a b))
    (h3 : OpR X (compareOp o3) r'') (p3 : Op2 X.K r'' χ) (n3 : ∀ a b, noEx (χ a b)) (ha : EV X W a f) (hb : EV X W b g) (hc : EV X W c h) (hd : EV X W d k) (hm : lastMarks [o1, o2, o3] [b, c, d] = false := by with_unfolding_all rfl) :
    EV X W (.Compare a [o1, o2, o3] [b, c, d] pos) (eChain3 φ ψ χ f g h k) := (pe_chain3 h1 h2 h3 ha hb hc hd hm).imp fun _ _ _ z => tChain3_of p1 n1 p2 n2 p3 n3 z
end
end Fs
namespace Fs
open PySem PySem.Spec PyProof.Rows L2
/-! ### xs.pop(e), xs an own list -/
section
variable {X : Cx} {W : WX} {pos : Pos}
def sPop (j : Nat) (f : Sx) : Stx := fun env => match env[j]? with
  | some (.ow (.lst bs)) => (match f env with
    | .ok r => (match r.d with
      | .int n => if 0 ≤ n ∧ n < bs.length ∧ bs.length ≤ 16777216 then .nx (env.set j (.ow (.lst (bs.eraseIdx n.toNat)))) else .st
      | _ => .st)
    | .ex c => .ex c env
    | .st => .st)
  | _ => .st
theorem sv_popX {j : Nat} {e : Expr} {f : Sx} (hbm : PE X e (tBM X.K "list" rPopAt (tVar j) (tCons (tE X.K X.mg W f) tNil))) (hs : swapsWith e none pos.line X.env = pure false := by rfl) :
    SV X W (.Expr e pos) (sPop j f) := (ps_expr hbm hs).imp fun E σ H z => by
  obtain ⟨F0, H0, F, env, rl, z⟩ := z
  unfold sPop at z
  cases ej : env[j]? with
  | none => simp only [ej] at z; exact z.elim
  | some sj =>
    cases sj with
    | un => simp only [ej] at z; exact z.elim
    | exc _ => simp only [ej] at z; exact z.elim
    | sh d => simp only [ej] at z; exact z.elim
    | ow dj =>
      cases dj <;> simp only [ej] at z <;> first | exact z.elim | skip
      rename_i bs
      obtain ⟨l2, el2, fl2, o2⟩ := rl.rel.ow j _ ej
      refine ⟨.ref l2, el2, tyV_lst rfl o2, F, env, rl.rel, ?_⟩
      cases ef : f env with
      | ex c => simp only [ef] at z; exact fun F1 H1 cls x m => z F1 H1 σ cls (rl.step x) m
      | st => simp only [ef] at z; exact z.elim
      | ok r =>
        simp only [ef] at z
        cases ed : r.d <;> simp only [ed] at z <;> first | exact z.elim | skip
        rename_i n
        by_cases c : 0 ≤ n ∧ n < bs.length ∧ bs.length ≤ 16777216
        · rw [if_pos c] at z
          intro F1 H1 v x q
          have qd := q.dv
          rw [ed] at qd
          have rl1 := rl.step x
          obtain ⟨l2', el2', fl2', o2'⟩ := rl1.rel.ow j _ ej
          rw [el2] at el2'
          cases el2'
          obtain ⟨ys, h2, r2⟩ := o2'
          have hlen := r2.len
          have hn : n.toNat < bs.length := by omega
          obtain ⟨y, hy, _⟩ := r2.get (List.getElem?_eq_getElem hn)
          refine ⟨l2, ys, n, n.toNat, y, rfl, by rw [qd.int], h2, by omega, by omega, by rw [hlen]; exact seqIndex_nat c.1 c.2.1, hy, ?_⟩
          have o2n : OwnAs X.K F1 (upd H1 l2 (.lst (ys.eraseIdx n.toNat))) l2 (.lst (bs.eraseIdx n.toNat)) := ⟨_, upd_same, r2.erase _⟩
          exact z _ _ σ (rl1.mut ej el2 o2n)
        · rw [if_neg c] at z
          exact z.elim
end
end Fs
namespace Fs
open PySem PySem.Spec PyProof.Rows L2
/-! ### dicts with tuples of whole numbers as keys -/
section
variable {X : Cx} {W : WX} {pos : Pos} {pins : List (Addr × Obj)} {σ : Sg} {H F : Hp} {s : Shared} {K : PySem.W.Frag}
theorem items_int {P : Program} {w : World} : ∀ {k : List Int} {its : List Value}, Vals (k.map V.int) its → ItemsAre (intKind P w) k its
  | [], _, .nil => .nil
  | i :: k, _, .cons r t => by
    obtain ⟨tk, rfl⟩ := (show ∃ t, _ = Value.int i t from r)
    exact .cons (show Value.isInt i (.int i tk) = true by simp [Value.isInt]) (items_int t)
theorem tkey_at (I : L2.Inv X pins σ H s) {a : Addr} {k : List Int} (h : SqN X.K H a (k.map V.int)) : IsTupleKey (intKind X.prog X.w) s.heap k a := by
  obtain ⟨its, rv, q, _⟩ := sqA_get (t := true) I h.t
  obtain ⟨o, g, hc, n, hd⟩ := id q
  exact ⟨o, _, n, g, hc, hd, by simpa using items_int rv⟩
theorem tk_dict {G : Hp} (I : L2.Inv X pins σ H s) (sg : Same G H) {l : Addr} {ks : List (List Int)} {us : List V} (h : TkAt X.K G H l ks us) : ∃ ts : List (List Int × Addr × Value), s.heap.DictOfH (tupleKind (intKind X.prog X.w)) l ts ∧ ts.map (·.1) = ks ∧ (l == sysModules) = false ∧ ks.length ≤ sizeLine ∧
    (∀ t ∈ ts, SqN X.K G t.2.1 (t.1.map V.int)) ∧ Vals us (ts.map fun t => t.2.2) := by
  obtain ⟨ob, es, ep, ts, q, h1, h2, h3, h4, h5, h6, h7, h8, h9⟩ := h
  obtain ⟨g, _⟩ := (show ObjOk X.prog X.w H s.heap l (.ext fun h => h.get? l = some ob) from I.hok l _ q)
  exact ⟨ts, ⟨ob, es, ep, g, h1, h2, h3, fun t ht => tkey_at I (sameN sg (h8 t ht)), by rw [h4]; exact h5⟩, h4, h6, h7, h8, h9⟩
theorem atKey_mem (ts : List (List Int × Addr × Value)) (k : List Int) : (atKey ts k).isSome = decide (k ∈ ts.map (·.1)) := by
  unfold atKey
  rw [Option.isSome_map]
  induction ts with
  | nil => rfl
  | cons t ts ih =>
    rw [List.find?_cons, List.map_cons]
    by_cases c : t.1 = k
    · rw [decide_eq_true c]
      exact (decide_eq_true (by rw [c]; exact List.mem_cons_self)).symm
    · rw [decide_eq_false c]
      simp only []
      rw [ih]
      refine decide_eq_decide.mpr ?_
      rw [List.mem_cons]
      exact ⟨.inr, fun z => z.elim (fun e => absurd e.symm c) id⟩
/-- {} -/
def newDict : Obj := { cls := .type "dict", data := .dict #[] }
theorem tk_new {K : PySem.W.Frag} {F H : Hp} {l : Addr} (hl : (l == sysModules) = false) : TkAt K F (upd H l (.ext fun h => h.get? l = some newDict)) l [] [] :=
  ⟨newDict, #[], 0, [], upd_same, ⟨rfl, rfl, rfl⟩, rfl, rfl, rfl, List.nodup_nil, hl, Nat.zero_le _, fun _ h => (by cases h), .nil⟩
def tDNewX : TE := fun _ H Q => ∀ p, H p = none → (p == sysModules) = false → Q (.ref p) (upd H p (.ext fun h => h.get? p = some newDict))
theorem pe_dnewX : PE X (.Dict [] [] pos) tDNewX := ⟨fun pins s σ H Q I h => wpAny_Dict_empty ⟨.ref s.heap.objs.size, _, I.laid (a := s.heap.objs.size) (o := .ext fun h => h.get? s.heap.objs.size = some newDict) (t' := s.toks) (fun _ _ q => Heap.get?_push_of_some _ q) (Nat.le_refl _)
    ⟨Heap.get?_push_size _ rfl, ⟨_, Heap.get?_push_size _ rfl⟩, fun h1 h2 e k => k _ e⟩, rfl, h _ (I.hok.fresh (Nat.le_refl _)) (beq_false_of_ne (Nat.ne_of_gt I.big))⟩⟩
theorem ev_dictT0 : EV X W (.Dict [] [] pos) (fun _ => .ok (.ow (.dtk [] []))) := pe_dnewX.imp fun σ H Q z => by
  obtain ⟨F, env, rl, z⟩ := z
  intro p hp hs
  have x0 : Ext F H F (upd H p (.ext fun h => h.get? p = some newDict)) := Ext.newO rl.sub hp
  exact z F _ _ x0 ⟨p, rfl, hp, rl.sub.free hp, [], tk_new hs, .nil⟩
/-- k in d -/
def rInX (K : PySem.W.Frag) : R2 := fun x y H Q => ∃ (a l : Addr) (k : List Int) (ks : List (List Int)) (us : List V), x = .ref a ∧ y = .ref l ∧ SqN K H a (k.map V.int) ∧ TkAt K H H l ks us ∧ Q (.bl (decide (k ∈ ks))) H
theorem op_inX (hu : X.A.units + 66 < cLine) : OpR X (compareOp .In) (rInX X.K) := by
  intro pins s σ H x y v u Q I rx ry h
  obtain ⟨a, l, k, ks, us, rfl, rfl, hk, hd, q⟩ := h
  obtain rfl : v = Value.ref a := rx
  obtain rfl : u = Value.ref l := ry
  obtain ⟨ts, dd, e, hs, _⟩ := tk_dict I (.refl _) hd
  refine wpAny_in_heap (tupleKind_room_in1 (by omega)) (tkey_at I hk) hs dd ?_
  rw [atKey_mem, e]
  exact ⟨.bl _, H, I.tok _, rfl, q⟩
theorem sqN_tup {F1 : Hp} {v : V} {l : List D} {k : List Int} (s : Same F F1) (h : DV K F H v (.tup l)) (e : intsOf l = some k) : ∃ a, v = .ref a ∧ SqN K F1 a (k.map V.int) := by
  rcases h with h | ⟨_, _, o⟩
  · cases h with
    | tup q r =>
      obtain rfl := intsOf_eq e
      exact ⟨_, rfl, by rw [← r.ints]; exact sameN s q⟩
  · exact o.elim
theorem tk_own {v : V} {ks : List (List Int)} {ds : List D} (s : Same F H) (h : DV K F H v (.dtk ks ds)) : ∃ l us, v = .ref l ∧ TkAt K H H l ks us ∧ DRs K F us ds := by
  rcases h with h | ⟨l, rfl, us, q, r⟩
  · cases h with
    | dtk q r => exact ⟨_, _, rfl, q.same s s, r⟩
  · exact ⟨l, us, rfl, q.same s (.refl _), r⟩
def dInX (x c : D) : Out R := match x, c with
  | .tup l, .dtk ks _ => (match intsOf l with
    | some k => cB (decide (k ∈ ks))
    | none => .st)
  | _, _ => .st
theorem o2_inX : Op2 K (rInX K) dInX := by
  intro F H x y a b Q s hx hy h
  unfold dInX at h
  split at h
  · rename_i l ks ds
    cases e : intsOf l with
    | none => simp only [e] at h; exact h.elim
    | some k =>
      simp only [e] at h
      obtain ⟨p, rfl, hk⟩ := sqN_tup s hx e
      obtain ⟨q, us, rfl, hd, _⟩ := tk_own s hy
      exact ⟨p, q, k, ks, us, rfl, rfl, hk, hd, okV_cl s h (.bl _)⟩
  · exact h.elim
theorem n_inX : ∀ a b, noEx (dInX a b) := by
  intro a b; unfold dInX cB; repeat' (first | trivial | split)
/-- d[k] = v -/
def putKs (ks : List (List Int)) (k : List Int) : List (List Int) := if k ∈ ks then ks else ks ++ [k]
def putVs {α : Type} (ks : List (List Int)) (ds : List α) (k : List Int) (d : α) : List α := if k ∈ ks then ds.set (ks.idxOf k) d else ds ++ [d]
theorem stored_keys (ts : List (List Int × Addr × Value)) (k : List Int) (a : Addr) (v : Value) : (storedH ts k a v).map (·.1) = putKs (ts.map (·.1)) k := by
  unfold storedH putKs
  rw [atKey_mem]
  by_cases c : k ∈ ts.map (·.1)
  · rw [decide_eq_true c, if_pos rfl, if_pos c, List.map_map]
    refine List.map_congr_left fun t _ => ?_
    show (putAt k v t).1 = t.1
    unfold putAt
    split <;> rfl
  · rw [decide_eq_false c, if_neg Bool.false_ne_true, if_neg c, List.map_append]
    rfl
theorem vals_put {k : List Int} {y : V} {u : Value} (ry : RelV y u) : ∀ {ts : List (List Int × Addr × Value)} {us : List V}, (ts.map (·.1)).Nodup → k ∈ ts.map (·.1) → Vals us (ts.map fun t => t.2.2) → Vals (us.set ((ts.map (·.1)).idxOf k) y) ((ts.map (putAt k u)).map fun t => t.2.2)
  | [], _, _, h, _ => by cases h
  | t :: ts, _ :: _, n, h, .cons r rs => by
    rw [List.map_cons, List.nodup_cons] at n
    have same : ∀ {ts : List (List Int × Addr × Value)}, k ∉ ts.map (·.1) → (ts.map (putAt k u)).map (fun t => t.2.2) = ts.map fun t => t.2.2 := fun {ts} hn => by
      rw [List.map_map]
      refine List.map_congr_left fun t ht => ?_
      show (putAt k u t).2.2 = t.2.2
      unfold putAt
      rw [if_neg fun e => hn (List.mem_map.mpr ⟨t, ht, e⟩)]
    by_cases c : t.1 = k
    · rw [List.map_cons, c, List.idxOf_cons_self, List.map_cons, List.map_cons, same (by rw [← c]; exact n.1)]
      have e : (putAt k u t).2.2 = u := by unfold putAt; rw [if_pos c]
      rw [e]
      exact .cons ry rs
    · have e : (putAt k u t).2.2 = t.2.2 := by unfold putAt; rw [if_neg c]
      have hk : k ∈ ts.map (·.1) := (List.mem_cons.mp h).resolve_left fun z => c z.symm
      have e3 : (t.1 == k) = false := by simpa using c
      rw [List.map_cons, List.idxOf_cons, e3, List.map_cons, List.map_cons, e]
      exact .cons r (vals_put ry n.2 hk rs)
theorem vals_app {xs ys : List V} {us vs : List Value} (h : Vals xs us) (g : Vals ys vs) : Vals (xs ++ ys) (us ++ vs) := by
  induction h with
  | nil => exact g
  | cons r _ ih => exact .cons r ih
def rSetX (K : PySem.W.Frag) : TSet := fun o i v H Q => ∃ (G : Hp) (l a : Addr) (k : List Int) (ks : List (List Int)) (us : List V), o = .ref l ∧ i = .ref a ∧ Same G H ∧ SqN K G a (k.map V.int) ∧ TkAt K G H l ks us ∧ ks.length < sizeLine ∧
  ∀ φ, TkAt K G (upd H l (.ext φ)) l (putKs ks k) (putVs ks us k v) → Q (upd H l (.ext φ))
theorem set_X (hu : X.A.units + 66 < cLine) : PSet X (rSetX X.K) := by
  intro pins s σ H o i v ov iv u Q I ro ri rv h
  obtain ⟨G, l, a, k, ks, us, rfl, rfl, sg, hk, hd, hl, q⟩ := h
  obtain rfl : ov = Value.ref l := ro
  obtain rfl : iv = Value.ref a := ri
  obtain ⟨ts, dd, e, hs, _, h8, h9⟩ := tk_dict I sg hd
  have lt : ts.length = ks.length := by rw [← e, List.length_map]
  have nd : (ts.map (·.1)).Nodup := by obtain ⟨_, _, _, _, _, _, _, _, n⟩ := dd; exact n
  refine wpAny_setItem_heap (hsz := by rw [lt]; omega) (tupleKind_room_in1 (by omega)) (tkey_at I (sameN sg hk)) dd fun h' dd' hsb => ?_
  obtain ⟨ob, es, ep, g, x1, x2, x3, _, x5⟩ := dd'
  obtain ⟨φ0, e0⟩ := hd.at_
  have new : TkAt X.K G (upd H l (.ext fun h => h.get? l = some ob)) l (putKs ks k) (putVs ks us k v) := by
    refine ⟨ob, es, ep, storedH ts k a u, upd_same, x1, x2, x3, by rw [stored_keys, e], by rw [← e, ← stored_keys (a := a) (v := u)]; exact x5, hs, ?_, fun t ht => ?_, ?_⟩
    · unfold putKs
      split
      · omega
      · rw [List.length_append, List.length_singleton]; omega
    · unfold storedH at ht
      split at ht
      · obtain ⟨t', ht', rfl⟩ := List.mem_map.mp ht
        have := h8 t' ht'
        unfold putAt
        split <;> exact this
      · rcases List.mem_append.mp ht with ht | ht
        · exact h8 t ht
        · rw [List.mem_singleton.mp ht]; exact hk
    · unfold storedH putVs
      rw [atKey_mem, e]
      by_cases c : k ∈ ks
      · rw [decide_eq_true c, if_pos rfl, if_pos c, ← e]
        exact vals_put rv nd (by rw [e]; exact c) h9
      · rw [decide_eq_false c, if_neg Bool.false_ne_true, if_neg c, List.map_append]
        exact vals_app h9 (.cons rv .nil)
  have no : ObjOk X.prog X.w (upd H l (.ext fun h => h.get? l = some ob)) h' l (.ext fun h => h.get? l = some ob) := ⟨g, ⟨ob, g⟩, fun h1 h2 e k => k _ e⟩
  exact ⟨_, I.write (x := l) (e := l) (by rw [e0]; exact True.intro) (.inl rfl) (fun b q hb z => (hsb.2 b hb).trans z) ⟨ob, g⟩ no, q _ new⟩
def sSetKT (i : Nat) (fi fv : Sx) : Stx := fun env => match fv env with
  | .ok (.bo _) => .st
  | .ok r => (match env[i]? with
    | some (.ow (.dtk ks ds)) => (match fi env with
      | .ok q => (match q.d with
        | .tup l => (match intsOf l with
          | some k => if ks.length < 16777216 then .nx (env.set i (.ow (.dtk (putKs ks k) (putVs ks ds k r.d)))) else .st
          | none => .st)
        | _ => .st)
      | .ex c => .ex c env
      | .st => .st)
    | _ => .st)
  | .ex c => .ex c env
  | .st => .st
theorem DRs.putVs {F : Hp} {K : PySem.W.Frag} {ks : List (List Int)} {us : List V} {ds : List D} {k : List Int} {v : V} {d : D} (r : DRs K F us ds) (q : DR K F v d) : DRs K F (putVs ks us k v) (putVs ks ds k d) := by
  unfold Fs.putVs
  split
  · exact r.set q _
  · exact r.app (.cons q .nil)
theorem sv_setKT {i : Nat} {x : Str} {ie ve : Expr} {fi fv : Sx} {p p2 : Pos} (hu : X.A.units + 66 < cLine) (hp : PE X (.Name x p) (tVar i)) (hi : EV X W ie fi) (hv : EV X W ve fv)
    (ha : ∀ v, assign (.Subscript (.Name x p) ie p2) X.env v = (do
      let ov ← holding [v] (eval (.Name x p) X.env)
      let iv ← holding [v, ov] (eval ie X.env)
      standAt p2
      holding [v, ov, iv] (setItem ov iv v)
      release [v, ov, iv] []) := by intro _; rfl)
    (hs : swapsWithSole [.Subscript (.Name x p) ie p2] ve pos.line X.env = pure false := by rfl) (hw : swappedStores [.Subscript (.Name x p) ie p2] ve X.env = pure none := by rfl)
    (h1 : (assignEach [.Subscript (.Name x p) ie p2] X.env).map (·.2) = [assign (.Subscript (.Name x p) ie p2) X.env] := by rfl) : SV X W (.Assign [.Subscript (.Name x p) ie p2] ve pos) (sSetKT i fi fv) := (ps_asg hv (pg_sub hp hi (set_X hu) ha) hs hw h1).imp fun E σ H z => by
  obtain ⟨F0, H0, F, env, rl, z⟩ := z
  refine ⟨F, env, rl.rel, ?_⟩
  unfold sSetKT at z
  have main : ∀ r : R, r.keeps → okS X.K X.mg W F0 H0 E (match env[i]? with
    | some (.ow (.dtk ks ds)) => (match fi env with
      | .ok q => (match q.d with
        | .tup l => (match intsOf l with
          | some k => if ks.length < 16777216 then .nx (env.set i (.ow (.dtk (putKs ks k) (putVs ks ds k r.d)))) else .st
          | none => .st)
        | _ => .st)
      | .ex c => .ex c env
      | .st => .st)
    | _ => .st) → okE X.K X.mg W F H σ (fun v H1 => gSub (tVar i) (tE X.K X.mg W fi) (rSetX X.K) v σ H1 E.nx) (.ok r) := by
    intro r kp z F1 H1 v x q
    obtain ⟨F2, x2, sm, dr⟩ := freeze x q kp
    have rl2 := rl.step x2
    cases e : env[i]? with
    | none => simp only [e] at z; exact z.elim
    | some s =>
      cases s with
      | un => simp only [e] at z; exact z.elim
      | exc _ => simp only [e] at z; exact z.elim
      | sh d => simp only [e] at z; exact z.elim
      | ow d =>
        obtain ⟨l, el, fl, o⟩ := rl2.rel.ow i d e
        refine ⟨.ref l, el, F2, env, rl2.rel, ?_⟩
        cases d <;> simp only [e] at z <;> first | exact z.elim | skip
        rename_i ks ds
        cases e3 : fi env with
        | ex c => simp only [e3] at z; exact fun F3 H3 cls x3 m => z F3 H3 σ cls (rl2.step x3) m
        | st => simp only [e3] at z; exact z
        | ok q2 =>
          simp only [e3] at z
          intro F3 H3 iv x3 q3
          have rl3 := rl2.step x3
          obtain ⟨l', el', fl', o'⟩ := rl3.rel.ow i _ e
          rw [el] at el'
          cases el'
          cases e4 : q2.d <;> simp only [e4] at z <;> first | exact z.elim | skip
          rename_i tl
          have q3v := q3.dv
          rw [e4] at q3v
          cases e5 : intsOf tl with
          | none => simp only [e5] at z; exact z.elim
          | some k =>
            simp only [e5] at z
            by_cases c : ks.length < 16777216
            · rw [if_pos c] at z
              obtain ⟨us, hd, rs⟩ := o'
              obtain ⟨a, rfl, hk⟩ := sqN_tup (.refl _) q3v e5
              exact ⟨F3, l, a, k, ks, us, rfl, rfl, rl3.rel.sub, hk, hd, by rw [sizeLine_eq]; exact c, fun φ nw => z F3 _ σ (rl3.mut e el ⟨_, nw, rs.putVs (dr.mono x3.ff)⟩)⟩
            · rw [if_neg c] at z
              exact z.elim
  cases e0 : fv env with
  | ok r =>
    cases r <;> simp only [e0] at z
    · exact main _ trivial z
    · exact main _ trivial z
    · exact z.elim
  | ex c => simp only [e0] at z; exact fun F3 H3 cls x3 m => z F3 H3 σ cls (rl.step x3) m
  | st => simp only [e0] at z; exact z
end
end Fs
namespace Fs
open PySem PySem.Spec PyProof.Rows L2
section
variable {X : Cx} {W : WX} {pos : Pos} {pins : List (Addr × Obj)} {σ : Sg} {H F : Hp} {s : Shared} {K : PySem.W.Frag}
theorem atKey_val {k : List Int} {ts : List (List Int × Addr × Value)} {us : List V} (rv : Vals us (ts.map fun t => t.2.2)) (h : k ∈ ts.map (·.1)) : ∃ (y : V) (p : Addr × Value), us[(ts.map (·.1)).idxOf k]? = some y ∧ atKey ts k = some p ∧ RelV y p.2 := by
  induction ts generalizing us with
  | nil => cases h
  | cons t ts ih =>
    cases us with
    | nil => cases rv
    | cons y us =>
      cases rv with
      | cons r rs =>
        by_cases c : t.1 = k
        · refine ⟨y, t.2, ?_, ?_, r⟩
          · rw [List.map_cons, c, List.idxOf_cons_self]; rfl
          · unfold atKey
            rw [List.find?_cons_of_pos (by exact decide_eq_true c)]
            rfl
        · have hk : k ∈ ts.map (·.1) := (List.mem_cons.mp h).resolve_left fun z => c z.symm
          obtain ⟨y2, p, e1, e2, r2⟩ := ih rs hk
          have e3 : (t.1 == k) = false := by simpa using c
          refine ⟨y2, p, ?_, ?_, r2⟩
          · rw [List.map_cons, List.idxOf_cons, e3]; exact e1
          · unfold atKey
            rw [List.find?_cons_of_neg (by exact fun z => c (of_decide_eq_true z))]
            exact e2
theorem atKey_no {k : List Int} {ts : List (List Int × Addr × Value)} (h : k ∉ ts.map (·.1)) : atKey ts k = none := by
  have := atKey_mem ts k
  rw [decide_eq_false h] at this
  cases e : atKey ts k with
  | none => rfl
  | some p => rw [e] at this; cases this
/-- d[k] -/
def rIxX (K : PySem.W.Frag) : R2 := fun x y H Q => ∃ (l a : Addr) (k : List Int) (ks : List (List Int)) (us : List V) (v : V), x = .ref l ∧ y = .ref a ∧ SqN K H a (k.map V.int) ∧ TkAt K H H l ks us ∧ k ∈ ks ∧ us[ks.idxOf k]? = some v ∧ Q v H
theorem ix_X (hu : X.A.units + 66 < cLine) : IxR X (rIxX X.K) := by
  intro value slice pins s σ H x y v u Q I rx ry h hsl
  obtain ⟨l, a, k, ks, us, z, rfl, rfl, hk, hd, hm, hz, q⟩ := h
  obtain rfl : v = Value.ref l := rx
  obtain rfl : u = Value.ref a := ry
  obtain ⟨ts, dd, e, hs2, _, _, rv⟩ := tk_dict I (.refl _) hd
  obtain ⟨y2, p, e1, e2, r2⟩ := atKey_val rv (by rw [e]; exact hm)
  rw [e, hz] at e1
  cases e1
  have ty : s.TypeIs (.ref l) "dict" := let ⟨ob, _, _, g, x, _⟩ := dd; ⟨ob, g, x.1⟩
  exact tail_any ty PySem.F.slot_dict_getitem.lookup (wpAny_getItem_heap (tupleKind_room_in1 (by omega)) (tkey_at I hk) dd e2 ⟨z, H, I.tok _, r2, q⟩) hsl
def dIxX (c x : D) : Out R := match c, x with
  | .dtk ks ds, .tup l => (match intsOf l with
    | some k => if k ∈ ks then oO ds[ks.idxOf k]? else .st
    | none => .st)
  | _, _ => .st
theorem o2_ixX : Op2 K (rIxX K) dIxX := by
  intro F H x y a b Q s hx hy h
  unfold dIxX at h
  split at h
  · rename_i ks ds l
    cases e : intsOf l with
    | none => simp only [e] at h; exact h.elim
    | some k =>
      simp only [e] at h
      obtain ⟨c, h⟩ := if_some h
      obtain ⟨d, e1, h⟩ := oO_some h
      obtain ⟨q, us, rfl, hd, rs⟩ := tk_own s hx
      obtain ⟨p, rfl, hk⟩ := sqN_tup s hy e
      obtain ⟨z, e2, r2⟩ := rs.get e1
      exact ⟨q, p, k, ks, us, z, rfl, rfl, hk, hd, c, e2, okV_cl s h r2⟩
  · exact h.elim
theorem n_ixX : ∀ a b, noEx (dIxX a b) := by
  intro a b; unfold dIxX oO; repeat' (first | trivial | split)
theorem ev_ixX {a b : Expr} {f g : Sx} (hu : X.A.units + 66 < cLine) (ha : EV X W a f) (hb : EV X W b g) (hs : PlainIx b) : EV X W (.Subscript a b pos) (e2 dIxX f g) :=
  (pe_ix (ix_X hu) ha hb hs).imp fun _ _ _ h => t2_of o2_ixX n_ixX h
/-- d.get(k, x) -/
def tDGetX (K : PySem.W.Frag) (td ty tx : TE) : TE := fun σ H Q => td σ H fun x H1 => ∃ l, x = .ref l ∧ (∃ ks us, TkAt K H1 H1 l ks us) ∧ ty σ H1 fun y H2 => tx σ H2 fun z H3 => ∃ (a : Addr) (k : List Int) (ks : List (List Int)) (us : List V), y = .ref a ∧ SqN K H3 a (k.map V.int) ∧ TkAt K H3 H3 l ks us ∧
  ((∃ v, k ∈ ks ∧ us[ks.idxOf k]? = some v ∧ Q v H3) ∨ k ∉ ks ∧ Q z H3)
theorem pe_dgetX {o e f : Expr} {apos cpos : Pos} {td ty tx : TE} (hu : X.A.units + 66 < cLine) (ho : PE X o td) (he : PE X e ty) (hf : PE X f tx) (m : M2 X o "get" apos e f cpos) : PE X (.Call (.Attribute o "get" apos) [e, f] [] cpos) (tDGetX X.K td ty tx) := by
  refine ⟨fun pins s σ H Q I h => wpAny_Call_method m.base m.few m.line PySem.F.plainAttrs_dict PySem.F.slot_dict_get PySem.F.type_dict_get (thn (ho.run pins s σ H _ I h) fun u s1 ⟨x, H1, I1, rx, l, ex, ⟨ks0, us0, d0⟩, q1⟩ => ?_)⟩
  subst ex
  obtain rfl : u = Value.ref l := rx
  obtain ⟨ts0, ⟨ob, es, ep, g0, x0, _⟩, _⟩ := tk_dict I1 (.refl _) d0
  refine ⟨⟨ob, g0, x0.1⟩, fun b q => (by cases q; exact ⟨ob, g0, x0.2.1⟩), ?_⟩
  rw [m.trees]
  refine Calls.callWith_builtin rfl (Calls.evalArgs_plain (Calls.spliced_cons (thn (he.run pins s1 σ H1 _ I1 q1) fun iv s2 ⟨y, H2, I2, ry, q2⟩ => Calls.spliced_cons (thn (hf.run pins s2 σ H2 _ I2 q2) fun fv s3 ⟨z, H3, I3, rz, a, k, ks, us, ey, hk, hd, q3⟩ => Calls.spliced_nil ?_))))
  subst ey
  obtain rfl : iv = Value.ref a := ry
  obtain ⟨ts, dd, e, hs, _, _, rv⟩ := tk_dict I3 (.refl _) hd
  have ty3 : s3.TypeIs (.ref l) "dict" := let ⟨ob, _, _, g, x, _⟩ := dd; ⟨ob, g, x.1⟩
  refine call_meetsIn PySem.F.slot_dict_get ty3 PySem.F.entry_dict_get (PySem.F.args_dict_get_3 _ _ _) (meetsH_dict_get_default (tupleKind (intKind X.prog X.w)) l a hs fv) ⟨tupleKind_room_in1 (by omega), k, ts, tkey_at I3 hk, dd, ?_⟩
  rcases q3 with ⟨v, hm, hz, q⟩ | ⟨hm, q⟩
  · obtain ⟨y2, p, e1, e2, r2⟩ := atKey_val rv (by rw [e]; exact hm)
    rw [e, hz] at e1
    cases e1
    rw [e2]
    exact ⟨v, H3, I3.tok _, r2, q⟩
  · rw [atKey_no (by rw [e]; exact hm)]
    exact ⟨z, H3, I3.tok _, rz, q⟩
def eGetX (f g k : Sx) : Sx := fun env => match f env with
  | .ok r => (match r.d with
    | .dtk ks ds => (match g env with
      | .ok q => (match q.d with
        | .tup l => (match k env with
          | .ok (.cl z) => (match intsOf l with
            | some n => if n ∈ ks then oO ds[ks.idxOf n]? else .ok (.cl z)
            | none => .st)
          | _ => .st)
        | _ => .st)
      | .ex c => .ex c
      | .st => .st)
    | _ => .st)
  | .ex c => .ex c
  | .st => .st
theorem ev_getX {a b e : Expr} {apos : Pos} {f g k : Sx} (hu : X.A.units + 66 < cLine) (ha : EV X W a f) (hb : EV X W b g) (he : EV X W e k)
    (h1 : attributeBase a "get" X.env (eval a X.env) = eval a X.env := by rfl) (h2 : ((backTo pos (starEach [b, e] X.env)).all (fun x => !x.1) && (backToKw pos (keywordEach [] X.env)).all (fun x => x.1.isSome)
      && decide (([b, e] : List Expr).length + ([] : List Keyword).length + (if ([] : List Keyword).isEmpty then 0 else 1) < 30)) = true := by rfl)
    (h3 : (apos.endLine == pos.line) = true := by rfl) (h4 : backTo pos (starEach [b, e] X.env) = [(false, eval b X.env), (false, eval e X.env)] := by rfl) :
    EV X W (.Call (.Attribute a "get" apos) [b, e] [] pos) (eGetX f g k) := (pe_dgetX hu ha hb he ⟨h1, h2, h3, h4⟩).imp fun σ H Q h => by
  obtain ⟨F, env, rl, h⟩ := h
  refine ⟨F, env, rl, ?_⟩
  unfold eGetX at h
  cases e1 : f env with
  | ex c => simp only [e1] at h; exact h
  | st => simp only [e1] at h; exact h
  | ok r =>
    simp only [e1] at h
    cases ed : r.d <;> simp only [ed] at h <;> first | exact h.elim | skip
    rename_i ks ds
    intro F1 H1 v x q
    have q2 := q.dv
    rw [ed] at q2
    obtain ⟨l, us, rfl, hd, rs⟩ := tk_own x.fh q2
    refine ⟨l, rfl, ⟨ks, us, hd⟩, F1, env, rl.ext x, ?_⟩
    cases e2 : g env with
    | ex c => simp only [e2] at h; exact fun F2 H2 cls x2 m => h F2 H2 cls (x.trans x2) m
    | st => simp only [e2] at h; exact h
    | ok rk =>
      simp only [e2] at h
      intro F2 H2 y x2 qk
      refine ⟨F2, env, (rl.ext x).ext x2, ?_⟩
      have q3 := qk.dv
      cases ek : rk.d <;> simp only [ek] at h <;> first | exact h.elim | skip
      rename_i tl
      rw [ek] at q3
      cases e3 : k env with
      | ex c => simp only [e3] at h; exact h.elim
      | st => simp only [e3] at h; exact h.elim
      | ok rz =>
        simp only [e3] at h
        cases rz with
        | ow d => exact h.elim
        | bo d => exact h.elim
        | cl z =>
          simp only [] at h
          cases e4 : intsOf tl with
          | none => simp only [e4] at h; exact h.elim
          | some n =>
            simp only [e4] at h
            intro F3 H3 u x3 qz
            obtain ⟨a, rfl, hk⟩ := sqN_tup (x3.ff.trans x3.fh) q3 e4
            have hd3 := hd.same (x2.trans x3).hh (x2.trans x3).hh
            have x123 := x.trans (x2.trans x3)
            refine ⟨a, n, ks, us, rfl, hk, hd3, ?_⟩
            by_cases c : n ∈ ks
            · rw [if_pos c] at h
              cases e5 : ds[ks.idxOf n]? with
              | none => rw [e5] at h; exact h.elim
              | some d =>
                rw [e5] at h
                obtain ⟨w, e6, r6⟩ := rs.get e5
                exact .inl ⟨w, c, e6, h F3 H3 w x123 (r6.mono (x2.trans x3).ff)⟩
            · rw [if_neg c] at h
              exact .inr ⟨c, h F3 H3 u x123 qz⟩
/-- for k in d -/
def ItTk (d : Addr) (o : Obj) (ts : List (List Int × Addr × Value)) : It :=
  ⟨fun i H => H d = some (.ext fun h => h.get? d = some o) ∧ i < ts.length, fun i H x H' => H' = H ∧ ∃ t, ts[i]? = some t ∧ x = .ref t.2.1, fun i H => H d = some (.ext fun h => h.get? d = some o) ∧ ts.length ≤ i⟩
theorem turn_tk {P : Program} {w : World} {tg : Expr} {d : Addr} {o : Obj} {es : Array DictEntry} {ep : Nat} {ts : List (List Int × Addr × Value)} (it : Addr) (hod : o.data = .dict es ep) (he : es.toList = ts.map entT) : Turn P w K tg (ItTk d o ts) [it] it (fun i h => h.IsKeyIter it d i ts.length ep) where
  mem := by simp
  obj := fun i h st b hb => by
    obtain rfl : b = it := by simpa using hb
    obtain ⟨oi, e, c, dd⟩ := st
    exact ⟨oi, e, fun v z => by rw [dd] at z; cases z⟩
  keep := fun i h h' st k => st.at fun oi e => k it (by simp) oi e
  item := by
    intro X hP hw hK hc i pins s σ H E I hf st hg
    subst hP hw hK
    obtain ⟨hd, hi⟩ := hg
    obtain ⟨f0, f1, f2, f3, f4, f5⟩ := hf it (by simp)
    obtain ⟨hgd, _⟩ := (show ObjOk X.prog X.w H s.heap d (.ext fun h => h.get? d = some o) from I.hok d _ hd)
    have hen : es[i]? = some (entT ts[i]) := by rw [← Array.getElem?_toList, he, List.getElem?_map, List.getElem?_eq_getElem hi]; rfl
    have hsz : es.size = ts.length := by rw [← Array.length_toList, he, List.length_map]
    refine next_key_item st hgd hod hsz hen fun h' st' sb => ?_
    have I1 : L2.Inv X pins σ H { s with heap := h' } := I.turned (t' := s.toks) (fun b ob hb e => (sb.2 b hb).trans e) f0 f1 f3 f4 f5
    obtain ⟨oi, e, c, dd⟩ := id st'
    exact ⟨_, rfl, go_of (s := { s with heap := h' }) e c dd (by decide) ⟨.ref ts[i].2.1, H, I1, rfl, ⟨rfl, ts[i], List.getElem?_eq_getElem hi, rfl⟩, st', fun b hb => (hf b hb).1⟩⟩
  done := by
    intro X hP hw hK hc i pins s σ H E I hf st hg
    subst hP hw hK
    obtain ⟨hd, hi⟩ := hg
    obtain ⟨f0, f1, f2, f3, f4, f5⟩ := hf it (by simp)
    obtain ⟨hgd, _⟩ := (show ObjOk X.prog X.w H s.heap d (.ext fun h => h.get? d = some o) from I.hok d _ hd)
    have hsz : es.size = ts.length := by rw [← Array.length_toList, he, List.length_map]
    exact next_key_end (I.ok.hd hc) st hgd hod hsz hi fun h' eb => ⟨rfl, I.turned (t' := s.toks) (fun b ob hb e => eb b ob hb e) f0 f1 f3 f4 f5⟩
  self := fun A i s Q E st h => wpAny_pyIter_keyiter st h
def iTkX (td : TE) : TI := fun σ H R => td σ H fun x H1 => ∃ (d : Addr) (o : Obj) (es : Array DictEntry) (ep : Nat) (ts : List (List Int × Addr × Value)), x = .ref d ∧ H1 d = some (.ext fun h => h.get? d = some o) ∧ o.ExactDict ∧ o.data = .dict es ep ∧ es.toList = ts.map entT ∧ (d == sysModules) = false ∧ R (ItTk d o ts) H1
theorem pi_tk {tg e : Expr} {td : TE} (he : PE X e td) : PI X tg e (iTkX td) := by
  refine ⟨fun pins s σ H R I h => thn (he.run pins s σ H _ I h) fun u s1 ⟨x, H1, I1, rx, d, o, es, ep, ts, ex, hd, hx, hdt, hes, hs, q⟩ => ?_⟩
  subst ex
  obtain rfl : u = Value.ref d := rx
  obtain ⟨hgd, _⟩ := (show ObjOk X.prog X.w H1 s1.heap d (.ext fun h => h.get? d = some o) from I1.hok d _ hd)
  have hsz : es.size = ts.length := by rw [← Array.length_toList, hes, List.length_map]
  refine iter_keys hs hgd hx hdt (pi_one (tk := s1.toks) I1 _ (turn_tk _ hdt hes) ⟨_, Heap.get?_push_size _ rfl, rfl, ?_⟩ q)
  rw [hsz]
  rfl
def iTk (f : Sx) : Ix := fun env => match f env with
  | .ok (.cl (.dtk ks _)) => if ks.length ≤ 16777216 then .ok (true, ks.map fun k => D.tup (k.map D.int)) else .st
  | .ok _ => .st
  | .ex c => .ex c
  | .st => .st
theorem iv_tk {tg e : Expr} {f : Sx} (he : EV X W e f) : IV X W tg e (iTk f) := (pi_tk he).imp fun σ H R z => by
  obtain ⟨F, env, rl, z⟩ := z
  refine ⟨F, env, rl, ?_⟩
  unfold iTk at z
  cases ef : f env with
  | ex c => simp only [ef] at z; exact z
  | st => simp only [ef] at z; exact z
  | ok r =>
    simp only [ef] at z
    cases r with
    | bo d => exact z.elim
    | ow d => exact z.elim
    | cl d =>
      cases d <;> first | exact z.elim | skip
      rename_i ks ds
      by_cases c : ks.length ≤ 16777216
      · simp only [if_pos c] at z
        intro F1 H1 v x q
        cases q with
        | dtk h r =>
          obtain ⟨ob, es, ep, ts, g, h1, h2, h3, h4, h5, h6, h7, h8, h9⟩ := h
          have hl : ts.length = ks.length := by rw [← h4, List.length_map]
          refine ⟨_, ob, es, ep, ts, rfl, x.fh _ _ g, h1, h2, h3, h6, z F1 H1 F1 _ x x.fh (fun _ => rfl) ⟨by rw [List.length_map]; exact c, fun i H s hi => ⟨s _ _ g, by rw [List.length_map] at hi; omega⟩, fun i F2 H x' H' s sf fh y dd hd => ?_, fun i H s hi => ⟨s _ _ g, by rw [List.length_map] at hi; omega⟩⟩⟩
          obtain ⟨rfl, t, ht, rfl⟩ := y
          have hk : ks[i]? = some t.1 := by rw [← h4, List.getElem?_map, ht]; rfl
          rw [List.getElem?_map, hk] at hd
          cases hd
          refine ⟨F2, .refl fh, .tup (sameN sf (h8 t (List.mem_of_getElem? ht))) (.of_ints _)⟩
      · simp only [if_neg c] at z
        exact z.elim
/-! ### t.count(x) -/
def rCountT (K : PySem.W.Frag) : V → List V → Hp → VK → Prop := fun x xs H Q => ∃ (a : Addr) (y : V) (d : PyData) (ds : List PyData), x = V.ref a ∧ xs = [y] ∧ Dp K H (V.ref a) (.tuple ds) ∧ Dp K H y d ∧
  SeqAt.shaped (.tuple ds) = true ∧ SeqAt.shaped d = true ∧ Q (.int (ds.countP fun z => PyData.eqv z d : Nat)) H
theorem mt_countT (hu : X.A.units + 65 < cLine) : MtR X "tuple.count" (rCountT X.K) := by
  intro pins s σ H x xs v us Q I rx rxs h
  obtain ⟨a, y, d, ds, rfl, rfl, hl, hy, sl, sd, q⟩ := h
  cases rx
  cases rxs with
  | cons ry rt =>
    rename_i uy ut
    cases rt
    obtain ⟨bs, r1⟩ := Dp.reads I d y uy hy ry
    have hxs : PyData.canLayAll0 ds = true := SeqAt.canLay_of_shaped sl
    have hroom : X.A.units + 1 + min (PyData.depthAll ds) d.depth < cLine := room_in_shaped sd hu
    cases hl with
    | tup hs ha =>
      obtain ⟨its, rv, ⟨⟨cls, dd, data, sls⟩, ho, hc, n, hdt⟩, hlen⟩ := I.tuple hs
      simp only at hc hdt
      subst hc hdt
      obtain ⟨as, h4⟩ := Dp.readsAll I ds _ its ha rv
      have hmap : its.map (SeqAt.readOf s.heap) = ds := SeqAt.readsAll_map ds its as hxs h4
      refine call_meets PySem.F.slot_tuple_count ⟨_, ho, rfl⟩ PySem.F.entry_tuple_count (PySem.F.args_tuple_count_2 _ _)
        (SeqAt.tuple_countAt a its.toArray n dd sls uy (fun u => PyData.eqv (SeqAt.readOf s.heap u) d)) ⟨ho, SeqAt.items_eqAt (vs := its.toArray) (show ReadsAll s.heap its.toArray.toList ds as from h4) r1 hxs (SeqAt.canLay_of_shaped sd) hroom, ?_⟩
      have ec : (its.toArray.toList.countP fun u => PyData.eqv (SeqAt.readOf s.heap u) d) = ds.countP fun z => PyData.eqv z d := by
        rw [← hmap, List.countP_map]
        rfl
      refine ⟨.int (ds.countP fun z => PyData.eqv z d : Nat), H, I.tok _, ⟨s.toks, ?_⟩, q⟩
      show Value.int ((its.toArray.toList.countP (fun u => PyData.eqv (SeqAt.readOf s.heap u) d) : Nat) : Int) s.toks = _
      rw [ec]
def dCountT (x y : D) : Out R := match x with
  | .tup ds => if pyOk (.tup ds) && pyOk y then cI (ds.countP fun z => deq z y : Nat) else .st
  | _ => .st
theorem o2_countT : Op2 K (fun x y H Q => rCountT K x [y] H Q) dCountT := by
  intro F H x y a b Q s hx hy h
  cases a <;> first | exact (False.elim h) | skip
  rename_i ds
  obtain ⟨c, h⟩ := if_some h
  rw [Bool.and_eq_true] at c
  obtain ⟨p, e1, s1⟩ := pyOk_py c.1
  obtain ⟨q, e2, s2⟩ := pyOk_py c.2
  obtain ⟨ps, e3, rfl⟩ := pys_of_tup e1
  obtain ⟨l, _, rfl, _⟩ := hx.tup s
  refine ⟨l, y, q, ps, rfl, rfl, hx.dp s e1, hy.dp s e2, s1, s2, ?_⟩
  rw [count_py e3 e2]
  exact okV_cl s h (.int _)
theorem n_countT : ∀ a b, noEx (dCountT a b) := by
  intro a b; unfold dCountT cI; repeat' (first | trivial | split)
theorem ev_cntT {a b : Expr} {apos : Pos} {f g : Sx} (hu : X.A.units + 65 < cLine) (ha : EV X W a f) (hb : EV X W b g)
    (hbase : attributeBase a "count" X.env (eval a X.env) = eval a X.env := by rfl)
    (hfew : ((backTo pos (starEach [b] X.env)).all (fun x => !x.1) && (backToKw pos (keywordEach [] X.env)).all (fun x => x.1.isSome)
      && decide (([b] : List Expr).length + ([] : List Keyword).length + (if ([] : List Keyword).isEmpty then 0 else 1) < 30)) = true := by rfl)
    (hline : (apos.endLine == pos.line) = true := by rfl) (hs : starEach [b] X.env = (false, eval b X.env) :: starEach [] X.env := by rfl) (hplain : (backTo pos (starEach [] X.env)).any (·.1) = false := by rfl) :
    EV X W (.Call (.Attribute a "count" apos) [b] [] pos) (eM isTp dCountT f g) :=
  (pe_bmT PySem.F.slot_tuple_count PySem.F.type_tuple_count (mt_countT hu) ha (pa_cons hb pa_nil hs) hbase hfew hline hs hplain).imp fun _ _ _ h => tBMT_of o2_countT n_countT (fun _ _ _ _ => isTp_N) h
/-! ### texts: s.split(t), s.join(xs), int(s) -/
def isS : D → Bool
  | .str _ => true
  | _ => false
@[simp] theorem isS_s (z : Str) : isS (.str z) = true := rfl
theorem isS_str {v : V} {d : D} (h : DV K F H v d) (e : isS d = true) : ∃ a, v = .str a := by
  cases d <;> first | (cases e; done) | skip
  exact ⟨_, h.str⟩
theorem tM1_of {mg : Str → Option Value} {Q : VK} {r : V → List V → Hp → VK → Prop} {φ : D → D → Out R} {f g : Sx} (o : Op2 K (fun x y H Q => r x [y] H Q) φ) (n : ∀ a b, noEx (φ a b)) (h : tE K mg W (eM isS φ f g) σ H Q) : tM1 r (tE K mg W f) (tE K mg W g) σ H Q := by
  obtain ⟨F, env, rl, h⟩ := h
  refine ⟨F, env, rl, ?_⟩
  unfold eM at h
  cases e : f env with
  | ok ra =>
    rw [e] at h
    simp only [bTy_ok] at h
    cases et : isS ra.d with
    | false => rw [et] at h; exact h.elim
    | true =>
      rw [et, if_pos rfl] at h
      intro F1 H1 v x q
      refine ⟨isS_str q.dv et, F1, env, rl.ext x, ?_⟩
      unfold e2 at h
      cases e' : g env with
      | ok rb =>
        simp only [e, e'] at h
        intro F2 H2 v2 x2 q2
        exact o F2 H2 v v2 _ _ Q x2.fh (x2.dv q.dv) q2.dv (okE_okV (x.trans x2) (n _ _) h)
      | ex c =>
        simp only [e, e'] at h
        exact fun F2 H2 cls x2 m => h F2 H2 cls (x.trans x2) m
      | st =>
        simp only [e, e'] at h
        exact h
  | ex c => rw [e] at h; exact h
  | st => rw [e] at h; exact h
def strsOf : List D → Option (List Str)
  | [] => some []
  | .str z :: ds => (strsOf ds).map (z :: ·)
  | _ :: _ => none
theorem strsOf_eq : ∀ {ds : List D} {ns : List Str}, strsOf ds = some ns → ds = ns.map D.str
  | [], _, e => by cases e; rfl
  | d :: ds, ns, e => by
    cases d <;> first | (cases e; done) | skip
    rename_i z
    unfold strsOf at e
    cases e1 : strsOf ds with
    | none => rw [e1] at e; cases e
    | some ms =>
      rw [e1] at e
      cases e
      rw [strsOf_eq e1]
      rfl
theorem strsOf_map : ∀ ns : List Str, strsOf (ns.map D.str) = some ns
  | [] => rfl
  | n :: ns => by
    rw [List.map_cons]
    unfold strsOf
    rw [strsOf_map ns]
    rfl
def dSplit : D → D → Out R
  | .str a, .str b => if (b.length == 0) = false ∧ a.length + 2 ≤ 16777216 then .ok (.ow (.lst ((Txt.split a b).map D.str))) else .st
  | _, _ => .st
theorem o2_split : Op2 K (fun x y H Q => ∃ a b, x = V.str a ∧ [y] = [V.str b] ∧ (b.length == 0) = false ∧ a.length + 2 ≤ sizeLine ∧ rNewStrs (Txt.split a b) H Q) dSplit := by
  intro F H x y a b Q s hx hy h
  cases a <;> first | exact (False.elim h) | skip
  cases b <;> first | exact (False.elim h) | skip
  obtain ⟨c, h⟩ := if_some h
  refine ⟨_, _, hx.str, by rw [hy.str], c.1, by rw [sizeLine_eq]; exact c.2, ?_⟩
  exact okV_newL s h (.of_strs _)
theorem n_split : ∀ a b, noEx (dSplit a b) := by
  intro a b; unfold dSplit; repeat' (first | trivial | split)
theorem ev_split {a b : Expr} {apos : Pos} {f g : Sx} (ha : EV X W a f) (hb : EV X W b g) (hs : starEach [b] X.env = [(false, eval b X.env)] := by rfl) (hbase : attributeBase a "split" X.env (eval a X.env) = eval a X.env := by rfl)
    (hline : (apos.endLine == pos.line) = true := by rfl) : EV X W (.Call (.Attribute a "split" apos) [b] [] pos) (eM isS dSplit f g) :=
  (pe_split ha hb hs hbase hline).imp fun _ _ _ h => tM1_of o2_split n_split h
def dJoin : D → D → Out R
  | .str a, .lst ds => (match strsOf ds with
    | some ys => if (ys.map (·.length)).sum + ys.length * a.length ≤ 16777216 then .ok (.cl (.str (Txt.join a ys))) else .st
    | none => .st)
  | _, _ => .st
theorem o2_join : Op2 K (fun x y H Q => ∃ a p, ∃ ys : List Str, x = V.str a ∧ [y] = [V.ref p] ∧ (SqL K H p (ys.map V.str) ∨ SqT K H p (ys.map V.str)) ∧ (ys.map (·.length)).sum + ys.length * a.length ≤ 16777216 ∧ Q (.str (Txt.join a ys)) H) dJoin := by
  intro F H x y a b Q s hx hy h
  cases a <;> first | exact (False.elim h) | skip
  cases b <;> first | exact (False.elim h) | skip
  rename_i z ds
  cases e : strsOf ds with
  | none => simp only [dJoin, e] at h; exact h.elim
  | some ys =>
    simp only [dJoin, e] at h
    obtain ⟨c, h⟩ := if_some h
    obtain ⟨l, xs, rfl, q, r⟩ := hy.lst s
    have e2 := strsOf_eq e
    subst e2
    have e3 := r.strs
    subst e3
    exact ⟨_, l, ys, hx.str, rfl, .inl (.inl (.inl q)), c, okV_cl s h (.str _)⟩
theorem n_join : ∀ a b, noEx (dJoin a b) := by
  intro a b; unfold dJoin; repeat' (first | trivial | split)
theorem ev_join {a b : Expr} {apos : Pos} {f g : Sx} (ha : EV X W a f) (hb : EV X W b g) (hs : starEach [b] X.env = [(false, eval b X.env)] := by rfl) (hbase : attributeBase a "join" X.env (eval a X.env) = eval a X.env := by rfl)
    (hline : (apos.endLine == pos.line) = true := by rfl) : EV X W (.Call (.Attribute a "join" apos) [b] [] pos) (eM isS dJoin f g) :=
  (pe_join ha hb hs hbase hline).imp fun _ _ _ h => tM1_of o2_join n_join h
def dIntS : D → Out R
  | .str a => if a.length ≤ 640 then (match PySem.intText? a with
    | some n => .ok (.cl (.int n))
    | none => .st) else .st
  | _ => .st
theorem o1_intS : Op1 K (fun x H Q => ∃ a n, [x] = [V.str a] ∧ PySem.intText? a = some n ∧ a.length ≤ 640 ∧ Q (.int n) H) dIntS := by
  intro F H x a Q s hx h
  cases a <;> first | exact (False.elim h) | skip
  rename_i z
  obtain ⟨c, h⟩ := if_some h
  cases e : PySem.intText? z with
  | none => rw [e] at h; exact h.elim
  | some n =>
    rw [e] at h
    exact ⟨z, n, by rw [hx.str], e, c, okV_cl s h (.int _)⟩
theorem n_intS : ∀ a, noEx (dIntS a) := by
  intro a; unfold dIntS; repeat' (first | trivial | split)
end
end Fs

set_option maxHeartbeats 4000000
namespace Fs
open PySem PySem.Spec PyProof.Rows L2

/-! ### a comprehension whose element may raise -/
/-- what calls may let out is taken -/
def TakesC (X : Cx) (W : WX) : Prop := ∀ σ, PassesAt (L2.CX X.prog X.w) X σ (WE W σ)
theorem TakesC.of {X : Cx} {W : WX} (tk : Takes X W) : TakesC X W := fun σ => passAt tk σ
theorem funFrames_but {B B2 h1 h2 : Heap} : ∀ {l : List PySem.Env}, h1.FunFrames B l → (∀ L ∈ frs l, h2.get? L = h1.get? L ∧ B2.get? L = none) → h2.FunFrames B2 l
  | [], _, _ => trivial
  | env :: l, ⟨hk, ⟨L, o, hf, _, ho, hd⟩, hr⟩, k =>
    have z := k L (List.mem_filterMap.mpr ⟨env, List.mem_cons_self, hf⟩)
    ⟨hk, ⟨L, o, hf, z.2, z.1.trans ho, hd⟩, funFrames_but hr fun b hb => k b (by
      obtain ⟨e, he, q⟩ := List.mem_filterMap.mp hb; exact List.mem_filterMap.mpr ⟨e, List.mem_cons_of_mem _ he, q⟩)⟩
section
variable {X : Cx} {W : WX}
/-- a call in a block lets an exception out: the block is let go, the exception is in the air of the def -/
theorem lc_fly {pins pinsb : List (Addr × Obj)} {s3 s s' : Shared} {σ σb : L2.St} {H3 H : Hp} {scope : Scope} {ce : PySem.Env} {fp : List Addr} {u : Value} (I3 : L2.Inv X pins σ H3 s3) (hs : X.stack = X.env :: X.outer) (hf : X.env.frame = some X.env.locals) (tk : Takes X W)
    (cL : ce.locals = s3.heap.objs.size) (cF : ce.frame = X.env.frame) (f3 : ∀ b ∈ fp, FpOk X pins H3 b ∧ b < s3.heap.objs.size) (I : L2.Inv (X.blk s3 H3 scope ce fp) pinsb σb H s)
    (c : L2.CX X.prog X.w X.stack H s (fun cls d H => W cls d σ H) u s') : notedBy (model X.prog X.w) X.A ce (CompFails (model X.prog X.w) X.A X.xe ce) u s' := by
  obtain ⟨a, B, H', cls, d, rfl, fl, hok, ub, na, os, ag, hE⟩ := c
  have en : noteFrame (.ref a) ce = noteFrame (.ref a) X.env := by unfold noteFrame PySem.frameOf; rw [cF]
  have hfr : X.A.frames = some (X.env :: X.outer) := by rw [I3.ok.frames, hs]
  have fresh : ∀ {b o}, s3.heap.get? b = some o → b ≠ ce.locals := fun {b o} e q => by
    have := Heap.lt_size e
    rw [q, cL] at this
    exact Nat.lt_irrefl _ this
  have cS : ce.locals ∉ frs X.stack := fun hm => by
    obtain ⟨_, o, ho, _⟩ := I3.stack.mem hm
    exact fresh ho rfl
  unfold notedBy
  rw [en]
  rw [hs] at fl
  refine HandSPX.looks_onZ Zc.steady hfr hf fl fun h1 hh up => ?_
  obtain ⟨m, ⟨o, es, ep, ho, hd, hr⟩, _⟩ := I.loc
  have hC : H ce.locals = none := I.free
  have hB : B.get? ce.locals = some o := ub.keep _ o ho hC cS
  have nC : H' ce.locals = none := ub.free _ o ho hC
  obtain ⟨k1, k2, k3, oe, vs, T, oT, ts, he, hz, hdv, v1, hnT, hTe, hT, hdT, t3⟩ := hh
  have h1C := k1 _ o hB
  refine ⟨m, ⟨o, es, ep, h1C, hd, hr⟩, fun h2 m' _ sb => ?_⟩
  have aC : a ≠ ce.locals := fun q => by rw [q, h1C] at he; cases he; rw [hd] at hdv; cases hdv
  have TC : T ≠ ce.locals := fun q => by rw [q, h1C] at hT; cases hT; rw [hd] at hdT; cases hdT
  have e2 := (sb.2 a aC).trans he
  have T2 := (sb.2 T TC).trans hT
  obtain ⟨B2, b1, b2⟩ := restrict B fun b => !(b == ce.locals)
  have B2C : B2.get? ce.locals = none := b2 _ (by simp)
  have B2o : ∀ b, b ≠ ce.locals → B2.get? b = B.get? b := fun b hb => b1 b (by simpa using hb)
  have oB2 : ∀ b o, B2.get? b = some o → B.get? b = some o ∧ b ≠ ce.locals := fun b o q => by
    by_cases hb : b = ce.locals
    · rw [hb, B2C] at q; cases q
    · rw [B2o b hb] at q; exact ⟨q, hb⟩
  have B2n : ∀ b, B.get? b = none → B2.get? b = none := fun b q => by
    cases z : B2.get? b with
    | none => rfl
    | some o => rw [(oB2 b o z).1] at q; cases q
  have k3' := k3
  unfold PySem.passOn
  refine wpAny_bind (wpAny_field e2 hdv v1 ?_)
  rw [if_neg (by simp), cF, hf]
  refine wpAny_bind (HandSPX.setFlight_onZ (base := B2) (l := X.env :: X.outer) (e := a) (Z := Zc cls d) (L := X.env.locals) ⟨fun b o q => (sb.2 b (oB2 b o q).2).trans (k1 b o (oB2 b o q).1), B2n a k2, funFrames_but k3 fun L hL => ?_, oe, vs, T, oT, ts, e2, hz, hdv, v1, B2n T hnT, hTe, T2, hdT, t3⟩ fun h3 hh3 up3 => ?_)
  · exact ⟨sb.2 L fun q => by rw [← hs, q] at hL; exact cS hL, B2n L (k3'.mem hL).1⟩
  refine wpAny_throw (tk _ _ ?_)
  obtain ⟨G, g1, g2⟩ := restrict s'.heap fun b => (B2.get? b).isSome || decide (b ∈ frs X.stack)
  have gB : ∀ b o, B.get? b = some o → b ≠ ce.locals → G.get? b = some o := fun b o q hb => by
    rw [g1 b (by rw [B2o b hb, q]; rfl)]; exact fl.1 b o q
  have gF : ∀ b, b ∈ frs X.stack → G.get? b = s'.heap.get? b := fun b hb => g1 b (by simp [hb])
  have og : ∀ b o, G.get? b = some o → s'.heap.get? b = some o ∧ b ≠ ce.locals ∧ ((∃ o', B2.get? b = some o') ∨ b ∈ frs X.stack) := fun b o q => by
    cases z : ((B2.get? b).isSome || decide (b ∈ frs X.stack)) with
    | false => rw [g2 b z] at q; cases q
    | true =>
      rw [g1 b z] at q
      have z : (B2.get? b).isSome = true ∨ b ∈ frs X.stack := by simpa [Bool.or_eq_true] using z
      refine ⟨q, fun y => ?_, z.imp (fun y => Option.isSome_iff_exists.mp y) id⟩
      rcases z with z | z
      · rw [y, B2C] at z; cases z
      · rw [y] at z; exact cS z
  have Un1 : Un (frs X.stack) fp H3 H' s3.heap G := by
    have base := I.base
    refine ⟨fun b o q n hb hx => ?_, fun b o q n hb hx => ?_, fun b o q n hx => ?_, fun b o q hx => ?_, fun b xs q => ub.tups b xs (base.tups b xs q), fun b o xs q => ub.frzs b o xs (base.frzs b o xs q), fun b ps q => ?_⟩
    · exact gB b o (ub.keep b o (base.keep b o q n hb hx) (base.free b o q n hx) hb) (fresh q)
    · obtain ⟨sl, q1⟩ := base.slot b o q n hb hx
      obtain ⟨sl2, q2⟩ := ub.slot b _ q1 hb
      exact ⟨sl2, (gF b hb).trans q2⟩
    · obtain ⟨o', q1⟩ := base.there b o q hx
      exact ub.free b o' q1 (base.free b o q n hx)
    · obtain ⟨o', q1⟩ := base.there b o q hx
      by_cases hb : b ∈ frs X.stack
      · obtain ⟨sl, q2⟩ := ub.slot b _ q1 hb
        exact ⟨_, (gF b hb).trans q2⟩
      · obtain ⟨o2, q2⟩ := ub.there b _ q1 hb
        exact ⟨o2, gB b o2 q2 (fresh q)⟩
    · obtain ⟨m1, q1⟩ := base.tbls b ps q
      obtain ⟨m2, q2⟩ := ub.tbls b _ q1
      exact ⟨m1 ++ m2, by rw [q2, Array.append_assoc]⟩
  have hokG : HOk X.prog X.w H' G := fun b o q => (hok b o q).stay (fun c u hc r => gB c u r fun y => by
    rcases hc with hc | hc
    · rw [← hc, y, nC] at q; cases q
    · rw [y, nC] at hc; cases hc) (fun _ r => r) fun _ _ r => r
  have osI : s'.os = s3.os := os.trans I.os
  have I7 : L2.Inv X pins σ H' { s' with heap := G } := I3.call' (ch := fp) osI Un1 hokG ag fun b hb => ⟨(f3 b hb).1.2.2.2.1, (f3 b hb).1.2.1, (f3 b hb).1.2.2.2.2.1, (f3 b hb).1.2.2.2.2.2⟩
  refine ⟨a, B2, { s' with heap := G }, pins, σ, H', cls, d, rfl, I7, fun b o q hb => ?_, fun b o q hn => ?_, .inr (.inr (by rw [hs]; exact hh3)), na, rfl, ag, hE⟩
  · obtain ⟨q1, _, z⟩ := og b o q
    rcases z with ⟨o', z⟩ | z
    · have := fl.1 b o' (oB2 b o' z).1
      rw [q1] at this; cases this
      exact z
    · exact absurd z hb
  · obtain ⟨q1, hb, _⟩ := og b o q
    obtain ⟨sl1, w1⟩ := up b o q1 hn
    obtain ⟨sl2, w2⟩ := up3 b _ ((sb.2 b hb).trans w1) hn
    exact ⟨sl2, w2⟩
/-- [elt for target in iter if ..], the element's calls may raise -/
def tLcX (W : WX) (wi : TI) (g : TG) (tt : TT) (te : WX → TE) (vs : List Nat) : TE := fun σ H Q => tLc wi g tt (te fun cls d _ H => W cls d σ H) vs σ H Q
theorem pe_lcX {elt tg iter : Expr} {ifs : List Expr} {scope : Scope} {own : List (Str × Nat)} {pos : Pos} {wi : TI} {g : TG} {tt : TT} {te : WX → TE} (hs0 : X.stack = X.env :: X.outer) (hf0 : X.env.frame = some X.env.locals) (tk : Takes X W) (hc : X.calm = true) (hN : X.N.Nodup) (hi : PI X tg iter wi) (ok : BlkOk X.N X.env.scope scope own)
    (hg : ∀ (s : Shared) (H : Hp) (C : Addr) (cl : List (Str × Addr)) (fp : List Addr), PG (X.blk s H scope (compEnvC scope cl C X.env) fp) tg g)
    (ht : ∀ (s : Shared) (H : Hp) (C : Addr) (cl : List (Str × Addr)) (fp : List Addr), PTs (X.blk s H scope (compEnvC scope cl C X.env) fp) ifs tt)
    (he : ∀ (s : Shared) (H : Hp) (C : Addr) (cl : List (Str × Addr)) (fp : List Addr) (xe : Value → Shared → Prop) (Wb : WX), TakesC ((X.blk s H scope (compEnvC scope cl C X.env) fp).wish xe) Wb → PE ((X.blk s H scope (compEnvC scope cl C X.env) fp).wish xe) elt (te Wb))
    (hs : ∀ x, foldedSetIterable iter X.env x = pure x := by intro _; rfl) : PE X (.ListComp elt [⟨tg, iter, ifs, 0⟩] scope pos) (tLcX W wi g tt te (own.map (·.2))) := by
  refine ⟨fun pins s σ H Q I h => ?_⟩
  have hfree : ∀ y ∈ scope.names, y.2 = .free → ∃ c, X.env.cells.lookup y.1 = some c := fun y hy e => (ok.free y hy e).elim (fun k => I.ok.has _ (.inl k)) fun k => I.ok.has _ (.inr k)
  rw [eval_ListComp]; refine comprehension_at (use := none) rfl hs (closure_ok hfree) ok.kind (fun y hy e => by rw [ok.uniq y hy, e]) (thn (hi.run pins s σ H _ I h) fun xv s1 hx => thn hx fun itv s2 h2 => ?_)
  obtain ⟨it, fp, tn, J, H2, rfl, I2, T, st2, f2, q⟩ := h2
  refine wpAny_newObj_type (newEnv_comp ?_) (by show 0 ≤ sizeLine; decide)
  generalize hD : s2.heap.objs.size = D; have hDn : H2 D = none := I2.hok.fresh (Nat.le_of_eq hD)
  obtain ⟨Wk, ⟨m0, w0⟩, turn⟩ := q D hDn
  generalize hs3 : ({ s2 with heap := s2.heap.push { cls := .type "list", data := .seq ([] : List Value).toArray } } : Shared) = s3
  have old3 : ∀ b o, s2.heap.get? b = some o → s3.heap.get? b = some o := fun b o e => by rw [← hs3]; exact Heap.get?_push_of_some _ e
  have z3 : s3.heap.objs.size = s2.heap.objs.size + 1 := by rw [← hs3]; exact Heap.size_push _ _
  have I3 : L2.Inv X pins σ (upd H2 D (.lst [])) s3 := by
    rw [← hs3]; refine I2.laid (t' := s2.toks) (fun b o e => Heap.get?_push_of_some _ e) (Nat.le_of_eq hD) ⟨Nat.zero_le _, [], 0, .nil, ?_⟩; rw [← hD]; exact Heap.get?_push_size _ rfl
  have sz : ∀ b ∈ fp, b < s2.heap.objs.size := fun b hb => let ⟨o, e, _⟩ := T.obj _ _ st2 b hb; Heap.lt_size e
  have f3 : ∀ b ∈ fp, FpOk X pins (upd H2 D (.lst [])) b ∧ b < s3.heap.objs.size := fun b hb => ⟨⟨by rw [upd_ne (by rw [← hD]; exact Nat.ne_of_lt (sz b hb))]; exact (f2 b hb).1, (f2 b hb).2⟩, by rw [z3]; exact Nat.lt_succ_of_lt (sz b hb)⟩
  have st3 : tn 0 s3.heap := T.keep _ _ _ st2 fun b _ o e => old3 b o e
  have I4 := block_start I3 ok hN f3
  generalize hcl : cellsFrom (s3.heap.objs.size + 1) scope.names (cloFrom X.env.cells scope.names []) = cl at I4
  have pg := hg s3 (upd H2 D (.lst [])) s3.heap.objs.size cl fp; have pt := ht s3 (upd H2 D (.lst [])) s3.heap.objs.size cl fp; have pe := he s3 (upd H2 D (.lst [])) s3.heap.objs.size cl fp
  show codeAny _ _ (.compStart (.ListComp elt [⟨tg, iter, ifs, 0⟩] scope pos) 0 (.ref it) (.ref D) (compEnvC scope cl s3.heap.objs.size X.env)) (compEnds (model X.prog X.w) X.A X.xe none (EP X pins σ Q) (.ref D) (compEnvC scope cl s3.heap.objs.size X.env)) { s3 with heap := pushCells (s3.heap.push { cls := .type "dict", data := .dict #[] }) scope.names }
  have nfp : ∀ b ∈ fp, (upd H2 D (.lst [])) b = none := fun b hb => (f3 b hb).1.1
  generalize hce : compEnvC scope cl s3.heap.objs.size X.env = ce at I4 pg pt pe ⊢
  have cL : ce.locals = s3.heap.objs.size := by subst hce; rfl
  have cF : ce.frame = X.env.frame := by subst hce; rfl
  generalize hH3 : upd H2 D (.lst []) = H3 at I3 I4 pg pt pe w0 nfp f3
  generalize hs4 : ({ s3 with heap := pushCells (s3.heap.push { cls := .type "dict", data := .dict #[] }) scope.names } : Shared) = s4 at I4 ⊢
  have st4 : tn 0 s4.heap := T.keep _ _ _ st3 fun b _ o e => by rw [← hs4]; exact pushCells_keeps _ _ _ _ (Heap.get?_push_of_some _ e)
  have stat : ∀ {σ' : L2.St} {H' : Hp} {s' : Shared}, L2.Inv (X.blk s3 H3 scope ce fp) [] σ' H' s' → (∀ b ∈ fp, H' b = none) → ∀ b ∈ fp, FpOk (X.blk s3 H3 scope ce fp) [] H' b := fun {σ' H' s'} I' hn b hb => ⟨hn b hb, (I'.ok.exf b hb).1, I'.ok.exfs b hb, .inl hb, fun x c e => (I'.ok.exf b hb).2 x c e, fun p hp => absurd (show p ∈ ([] : List (Addr × Obj)) ++ [] from hp) (by simp)⟩
  have tkB : ∀ σ0 : L2.St, σ0 = σ → TakesC ((X.blk s3 H3 scope ce fp).wish (notedBy (model X.prog X.w) X.A ce (CompFails (model X.prog X.w) X.A X.xe ce))) (fun cls d _ H => W cls d σ H) := fun _ _ σb pb Hb sb u s' Ib c => lc_fly I3 hs0 hf0 tk cL cF f3 Ib.unwish c
  have loop : codeAny (model X.prog X.w) X.A (.compLoop (.ListComp elt [⟨tg, iter, ifs, 0⟩] scope pos) 0 (.ref it) (.ref D) ce) (compEnds (model X.prog X.w) X.A X.xe none (EP X pins σ Q) (.ref D) ce) s4 := by
    refine compLoop_any (fun n s' => ∃ i H', L2.Inv (X.blk s3 H3 scope ce fp) [] (wipe σ (own.map (·.2))) H' s' ∧ tn i s'.heap ∧ (∀ b ∈ fp, H' b = none) ∧ Wk i n H') ?_ m0 ⟨0, H3, I4, st4, nfp, w0⟩
    rintro n s5 ⟨i, H5, I5, st5, n5, w5⟩
    rcases turn i n H5 w5 with ⟨stop, qq⟩ | ⟨go, Nx, hNx, step⟩
    · refine thnF (T.done (X.blk s3 H3 scope ce fp) rfl rfl rfl hc i [] s5 _ H5 (fun _ _ => False) I5 (stat I5 n5) st5 stop) fun r s6 ⟨hr, I6⟩ => ?_
      subst hr
      have I7 : L2.Inv X pins σ H5 s6 := I3.call' (ch := fp) I6.os I6.base I6.hok I6.bare fun b hb => ⟨(f3 b hb).1.2.2.2.1, (f3 b hb).1.2.1, (f3 b hb).1.2.2.2.2.1, (f3 b hb).1.2.2.2.2.2⟩
      have nC : H5 ce.locals = none := I6.free
      obtain ⟨m, hn, _⟩ := I6.loc
      refine ⟨m, hn, fun h'' sb => ?_⟩
      obtain ⟨f0, f1, f2, f3, f4, f5⟩ := I3.fpOk (H' := H5) (b := ce.locals) (by rw [cL]; exact Nat.le_refl _) nC
      exact ⟨.ref D, H5, I7.turned (t' := s6.toks) (fun b o hb e => (sb.2 b hb).trans e) f0 f1 f3 f4 f5, rfl, qq⟩
    · refine thnF (T.item (X.blk s3 H3 scope ce fp) rfl rfl rfl hc i [] s5 _ H5 (fun _ _ => False) I5 (stat I5 n5) st5 go) fun r s6 ⟨u, hr, h6⟩ => ?_
      subst hr
      refine thnF h6 fun _ s7 ⟨x, H7, I7, r7, y7, st7, n7⟩ => ?_
      refine thnF (pg.run _ s7 _ H7 x u _ (I7.pinned (stat I7 n7) (T.obj _ _ st7)) r7 (step x H7 y7)) fun _ s8 ⟨σ8, H8, I8, hw8, q8⟩ => thnF (pt.run _ s8 σ8 H8 _ I8 q8) fun b s9 ⟨H9, I9, q9⟩ => ?_
      have fin : ∀ {s' : Shared} {H' : Hp}, L2.Inv (X.blk s3 H3 scope ce fp) ([] ++ pinsAt fp s7.heap) σ8 H' s' → Nx H' → ∃ m, m < n ∧ ∃ i H', L2.Inv (X.blk s3 H3 scope ce fp) [] (wipe σ (own.map (·.2))) H' s' ∧ tn i s'.heap ∧ (∀ b ∈ fp, H' b = none) ∧ Wk i m H' := fun {s' H'} I' nx => by
        obtain ⟨m', hm, w'⟩ := hNx H' nx
        have pin' : ∀ b ∈ fp, ∀ o, s7.heap.get? b = some o → s'.heap.get? b = some o ∧ H' b = none := fun b hb o e => let z := I'.pin (b, o) (List.mem_append_right _ (List.mem_append_right _ (mem_pinsAt hb e))); ⟨z.1, z.2.1⟩
        refine ⟨m', hm, i + 1, H', (I'.unpinned (pins := [])).weak (by rw [← hw8, wipe_length]) (fun j v e => ?_), T.keep _ _ _ st7 fun b hb o e => (pin' b hb o e).1, fun b hb => let ⟨o, e, _⟩ := T.obj _ _ st7 b hb; (pin' b hb o e).2, w'⟩
        rw [← hw8] at e; exact (wipe_some e).1
      cases b with
      | false => simp only [Bool.false_eq_true, if_false] at q9 ⊢; exact fin I9 q9
      | true =>
        simp only [if_true] at q9 ⊢
        refine wpAny_mono ((pe _ _ (tkB σ rfl)).run _ s9 σ8 H9 _ (I9.wish _) q9) (fun z s10 ⟨yv, H10, I10, r10, acc, hD10, hz10, nx⟩ => ?_) fun _ _ k => k
        exact L2.app_ok (X := X.blk s3 H3 scope ce fp) I10.unwish hD10 hz10 r10 fun s11 I11 => fin I11 nx
  exact codeAny_compStart_list loop (T.self X.A 0 _ _ _ st4 loop)
end
def compFX (t : Tgt) (c : Tx) (f : Sx) : List D → Env → Out (List D)
  | [], _ => .ok []
  | d :: ds, env => match bindT t d env with
    | some e => (match c e with
      | .ok true => (match f e with
        | .ok (.bo _) => .st
        | .ok r => consO r.d (compFX t c f ds env)
        | .ex c => .ex c
        | .st => .st)
      | .ok false => compFX t c f ds env
      | _ => .st)
    | none => .st
def endC : Out (List D) → Out R
  | .ok rs => .ok (.ow (.lst rs))
  | .ex c => .ex c
  | .st => .st
def eCompX (src : Ix) (t : Tgt) (c : Tx) (f : Sx) (vs : List Nat) : Sx := fun env => match src env with
  | .ok (_, ds) => endC (compFX t c f ds (wipeE env vs))
  | .ex c => .ex c
  | .st => .st
/-- what was made ahead, then the rest -/
def preO (done : List D) : Out (List D) → Out (List D)
  | .ok rs => .ok (done ++ rs)
  | .ex c => .ex c
  | .st => .st
theorem preO_cons (done : List D) (d : D) (o : Out (List D)) : preO done (consO d o) = preO (done ++ [d]) o := by
  cases o with
  | ok rs => show Out.ok (done ++ d :: rs) = .ok ((done ++ [d]) ++ rs); rw [List.append_assoc]; rfl
  | ex c => rfl
  | st => rfl
theorem noD_of {Fa Ha Fb Hb : Hp} {D : Addr} (xx : Ext Fa Ha Fb Hb) (nn : Fa D = none) (ho : ∃ o, Ha D = some o) : Fb D = none := by
  obtain ⟨o, ho⟩ := ho
  cases q : Fb D with
  | none => rfl
  | some u =>
    rcases xx.nw _ _ q with w | w
    · rw [ho] at w; cases w
    · rw [nn] at w; cases w
section
variable {K : PySem.W.Frag} {mg : Str → Option Value} {W : WX}
theorem tLcX_of {src : Ix} {t : Tgt} {c : Tx} {f : Sx} {vs : List Nat} {σ : Sg} {H : Hp} {Q : VK} (hv : ∀ i ∈ t.slots, i ∈ vs) (z : tE K mg W (eCompX src t c f vs) σ H Q) :
    tLcX W (tI K mg W src) (gT K t) (tT K mg W0 c) (fun Wb => tE K mg Wb f) vs σ H Q := by
  obtain ⟨F, env, rl, z⟩ := z
  refine ⟨F, env, rl, ?_⟩
  unfold eCompX at z
  cases e : src env with
  | ex c => simp only [e] at z; exact z
  | st => simp only [e] at z; exact z
  | ok bd =>
    obtain ⟨k, ds⟩ := bd
    simp only [e] at z
    intro F1 H1 G J x sg hG it D nD
    generalize htot : compFX t c f ds (wipeE env vs) = tot at z
    refine ⟨fun i m H2 => ∃ F2 acc done, Rel K F2 H2 (L2.wipe σ vs) (wipeE env vs) ∧ Ext F1 H1 F2 H2 ∧ F2 D = none ∧ H2 D = some (.lst acc) ∧ DRs K F2 acc done ∧ m = ds.length - i ∧ i ≤ ds.length ∧ acc.length ≤ i ∧ preO done (compFX t c f (ds.drop i) (wipeE env vs)) = tot, ⟨ds.length, F1, [], [], ?_⟩, ?_⟩
    · have x2 : Ext F1 H1 F1 (upd H1 D (.lst [])) := .newO x.fh nD
      refine ⟨(rl.ext (x.trans x2)).wipe vs, x2, x.fh.free nD, upd_same, .nil, rfl, Nat.zero_le _, Nat.zero_le _, ?_⟩
      rw [List.drop_zero, htot]
      cases tot <;> rfl
    · rintro i m H2 ⟨F2, acc, done, r2, x2, nF, hD, rs2, rfl, hi, ha, ec⟩
      have sgh : Same G H2 := sg.trans x2.hh
      by_cases hlt : i < ds.length
      · rw [List.drop_eq_getElem_cons hlt] at ec
        unfold compFX at ec
        refine .inr ⟨it.go i H2 sgh hlt, fun H5 => ∃ F5 acc done, Rel K F5 H5 (L2.wipe σ vs) (wipeE env vs) ∧ Ext F1 H1 F5 H5 ∧ F5 D = none ∧ H5 D = some (.lst acc) ∧ DRs K F5 acc done ∧ acc.length ≤ i + 1 ∧ preO done (compFX t c f (ds.drop (i + 1)) (wipeE env vs)) = tot,
          fun H' ⟨F5, acc, done, a1, a2, a3, a4, a5, a6, a7⟩ => ⟨ds.length - (i + 1), by omega, F5, acc, done, a1, a2, a3, a4, a5, rfl, hlt, a6, a7⟩, fun v H3 y => ?_⟩
        obtain ⟨F3, x3, dr⟩ := it.yld i F2 H2 v H3 sgh x2.ff r2.sub y _ (List.getElem?_eq_getElem hlt)
        have nF3 := noD_of x3 nF ⟨_, hD⟩
        have hD3 := x3.hh _ _ hD
        have no : tot = .st → False := fun q => by rw [q] at z; exact z
        cases eb : bindT t ds[i] (wipeE env vs) with
        | none => rw [eb] at ec; exact (no ec.symm).elim
        | some env3 =>
          simp only [eb] at ec
          refine ⟨F3, _, F3, _, ds[i], env3, (r2.ext x3).srel, dr, eb, fun σ3 r3 o => ⟨wipe_again o hv, ?_⟩⟩
          refine ⟨F3, env3, r3.rel, ?_⟩
          cases e3 : c env3 with
          | ex c => simp only [e3] at ec; exact (no ec.symm).elim
          | st => simp only [e3] at ec; exact (no ec.symm).elim
          | ok k =>
            intro F4 H4 x4
            have nF4 := noD_of x4 nF3 ⟨_, hD3⟩
            have hD4 := x4.hh _ _ hD3
            have r24 := (r2.ext x3).ext x4
            have x14 := x2.trans (x3.trans x4)
            cases k with
            | false =>
              simp only [e3] at ec
              rw [if_neg Bool.false_ne_true]
              exact ⟨F4, acc, done, r24, x14, nF4, hD4, rs2.mono (x3.ff.trans x4.ff), by omega, ec⟩
            | true =>
              simp only [e3] at ec
              rw [if_pos rfl]
              refine ⟨F4, env3, r3.rel.ext x4, ?_⟩
              cases e4 : f env3 with
              | st => simp only [e4] at ec; exact (no ec.symm).elim
              | ex c =>
                simp only [e4] at ec
                subst ec
                exact fun F5 H5 cls x5 m => z F5 H5 cls (x.trans (x14.trans x5)) m
              | ok r =>
                have go : r.keeps → preO done (consO r.d (compFX t c f (ds.drop (i + 1)) (wipeE env vs))) = tot → okE K mg (fun cls d _ H => W cls d σ H) F4 H4 σ3 (fun y H4 => ∃ acc, H4 D = some (.lst acc) ∧ acc.length < sizeLine ∧ (∃ F5 acc' done, Rel K F5 (upd H4 D (.lst (acc ++ [y]))) (L2.wipe σ vs) (wipeE env vs) ∧ Ext F1 H1 F5 (upd H4 D (.lst (acc ++ [y]))) ∧ F5 D = none ∧ (upd H4 D (.lst (acc ++ [y]))) D = some (.lst acc') ∧ DRs K F5 acc' done ∧ acc'.length ≤ i + 1 ∧ preO done (compFX t c f (ds.drop (i + 1)) (wipeE env vs)) = tot)) (.ok r) := by
                  intro kp ec
                  intro F5 H5 u x5 q5
                  have hD5 := x5.hh _ _ hD4
                  obtain ⟨F6, x6, sm, dr6⟩ := freeze x5 q5 kp
                  have nF6 := noD_of x6 nF4 ⟨_, hD4⟩
                  refine ⟨acc, hD5, by rw [sizeLine_eq]; have := it.len; omega, ?_⟩
                  rw [preO_cons] at ec
                  have s6 : Same F6 (upd H5 D (.lst (acc ++ [u]))) := fun b o q => by
                    rw [upd_ne (ne_of_none q nF6)]
                    exact x6.fh _ _ q
                  have x16 : Ext F1 H1 F6 (upd H5 D (.lst (acc ++ [u]))) := by
                    have xx := x14.trans x6
                    exact ⟨fun b o q => by rw [upd_ne (ne_of_none q nD)]; exact xx.hh _ _ q, xx.ff, s6, xx.nw⟩
                  exact ⟨F6, acc ++ [u], done ++ [r.d], ((rl.ext x).wipe vs).ext x16, x16, nF6, upd_same, (rs2.mono ((x3.ff.trans x4.ff).trans x6.ff)).app (.cons dr6 .nil), by rw [List.length_append]; show acc.length + 1 ≤ _; omega, ec⟩
                cases r <;> simp only [e4] at ec
                · exact go trivial ec
                · exact go trivial ec
                · exact (no ec.symm).elim
      · have ei : i = ds.length := by omega
        subst ei
        rw [List.drop_length] at ec
        have ec : Out.ok (done ++ []) = tot := ec
        rw [List.append_nil] at ec
        subst ec
        exact .inl ⟨it.stop _ H2 sgh (Nat.le_refl _), z F2 H2 _ (x.trans x2) ⟨D, rfl, x.hh.free nD, nF, acc, hD, rs2⟩⟩
end
section
variable {X : Cx} {W : WX} {pos : Pos} {tg : Expr}
theorem ev_compX {elt iter : Expr} {ifs : List Expr} {scope : Scope} {vs : List Nat} (own : List (Str × Nat)) {src : Ix} {t : Tgt} {c : Tx} {f : Sx} (hs0 : X.stack = X.env :: X.outer) (hf0 : X.env.frame = some X.env.locals) (tk : Takes X W) (hc : X.calm = true) (hN : X.N.Nodup) (hi : IV X W tg iter src) (ok : BlkOk X.N X.env.scope scope own)
    (hg : ∀ (s : Shared) (H : Hp) (C : Addr) (cl : List (Str × Addr)) (fp : List Addr), GV (X.blk s H scope (compEnvC scope cl C X.env) fp) tg t) (ht : ∀ (s : Shared) (H : Hp) (C : Addr) (cl : List (Str × Addr)) (fp : List Addr), CV (X.blk s H scope (compEnvC scope cl C X.env) fp) ifs c)
    (he : ∀ (s : Shared) (H : Hp) (C : Addr) (cl : List (Str × Addr)) (fp : List Addr) (xe : Value → Shared → Prop) (Wb : WX), TakesC ((X.blk s H scope (compEnvC scope cl C X.env) fp).wish xe) Wb → EV ((X.blk s H scope (compEnvC scope cl C X.env) fp).wish xe) Wb elt f) (hvs : vs = own.map (·.2) := by rfl) (hv : ∀ i ∈ t.slots, i ∈ vs := by decide) (hs : ∀ x, foldedSetIterable iter X.env x = pure x := by intro _; rfl) :
    EV X W (.ListComp elt [⟨tg, iter, ifs, 0⟩] scope pos) (eCompX src t c f vs) := by
  subst hvs
  exact (pe_lcX (wi := tI X.K X.mg W src) (g := gT X.K t) (tt := tT X.K X.mg W0 c) (te := fun Wb => tE X.K X.mg Wb f) hs0 hf0 tk hc hN hi ok hg ht he hs).imp fun σ H Q z => tLcX_of hv z
end
section
variable {X : Cx} {W : WX} {pos : Pos}
theorem ev_callC {k : Nat} {f : Addr} {fd : FuncData} {ps : List Str} {g : List D → Out R} {x : Str} {p : Pos} {e : Expr} {es : List Expr} {fs : List Sx} (FN : FnG X.prog X.w X.K X.mg X.base k f fd ps g) (hr : Room k X.A) (hg : Gl X x) (hm : X.mg x = some (.ref f)) (hk : PySem.W.keepIn X.K (.ref f) = true) (hb : Binds X.K fd ps [])
    (tk : TakesC X W) (ha : AV X W (e :: es) fs) (hl : fs.length = ps.length := by rfl) (hdb : (x == ("__debug__" : Str)) = false := by decide) (he : starEach (e :: es) X.env = (false, eval e X.env) :: starEach es X.env := by rfl) (hpl : (backTo pos (starEach es X.env)).any (·.1) = false := by rfl) :
    EV X W (.Call (.Name x p) (e :: es) [] pos) (eCall g fs) := (pe_callS (E := WE W) FN hr hg hm hk hb (fun σ => tk σ) ha hdb he hpl).imp fun σ H Q z => by
  obtain ⟨F, env, rl, z⟩ := z
  refine ⟨F, env, rl, ?_⟩
  unfold eCall at z
  cases e2 : evArgs fs env with
  | ok ds =>
    rw [e2] at z
    intro F1 H1 vs x rs
    refine ⟨F1, ds, x.fh, by rw [rs.len, evArgs_len e2]; exact hl, rs, ?_⟩
    have z' : okE X.K X.mg W F H σ Q (g ds) := z
    cases e3 : g ds with
    | ok r => rw [e3] at z'; exact fun F2 H2 v x2 q => z' F2 H2 v (x.trans x2) (q.back x.hh)
    | ex c => rw [e3] at z'; exact fun F2 H2 cls x2 m => z' F2 H2 cls (x.trans x2) m
    | st => rw [e3] at z'; exact z'
  | ex c => rw [e2] at z; exact z
  | st => rw [e2] at z; exact z
end
/-! ### a text so many times -/
def repS (x : Str) (k : Nat) : Str := ⟨(List.replicate k x.cps).foldl (· ++ ·) #[]⟩
def dMulS : D → D → Out R
  | .str a, .int k => if 2 ≤ k ∧ k ≤ 1000 ∧ a.length = 1 then cD (.str (repS a k.toNat)) else .st
  | _, _ => .st
theorem rep_len (a : Array Nat) : ∀ (k : Nat) (b : Array Nat), ((List.replicate k a).foldl (· ++ ·) b).size = b.size + k * a.size
  | 0, b => by simp
  | k + 1, b => by rw [List.replicate_succ, List.foldl_cons, rep_len a k, Array.size_append, Nat.add_mul]; omega
def rMulS : R2 := fun x y H Q => ∃ a k, x = .str a ∧ y = .int k ∧ 2 ≤ k ∧ k ≤ 1000 ∧ a.length = 1 ∧ Q (.str (repS a k.toNat)) H
theorem op_mulS {X : Cx} : OpR X (binaryOp .Mult) rMulS := by
  intro pins s σ H x y v u Q I rx ry h
  obtain ⟨a, k, rfl, rfl, h1, h2, hl, q⟩ := h
  obtain ⟨t, rfl⟩ := rx
  obtain ⟨t', rfl⟩ := ry
  have n1 : ¬ k < 1 := by omega
  have c : (k == 1 || a.length == 0) = false := by
    rw [hl, beq_eq_false_iff_ne.mpr (show k ≠ 1 by omega)]
    rfl
  refine P.mul_str ?_ (fun _ _ => ?_) (fun _ _ => ?_) ?_
  · rw [decide_eq_false (by omega), decide_eq_false (by omega)]; rfl
  · rw [hl]
    have : (1 : Int) ≤ (2 ^ 63 - 1) / k := (Int.le_ediv_iff_mul_le (by omega)).mpr (by omega)
    omega
  · unfold Builtin.Str.tooLong
    rw [hl, sizeLine_eq]
    exact decide_eq_false (by omega)
  · rw [if_neg n1, c]
    refine ⟨?_, ?_⟩
    · show ((List.replicate k.toNat a.cps).foldl (· ++ ·) #[]).size ≤ sizeLine
      rw [rep_len, sizeLine_eq]
      have : a.cps.size = 1 := hl
      rw [this]
      simp only [List.size_toArray, List.length_nil]
      omega
    · exact ⟨.str (repS a k.toNat), H, I.tok _, ⟨_, rfl⟩, q⟩
theorem o2_mulS {K : PySem.W.Frag} : Op2 K rMulS dMulS := by
  intro F H x y a b Q s hx hy h
  cases a <;> first | exact (False.elim h) | skip
  cases b <;> first | exact (False.elim h) | skip
  obtain ⟨c, h⟩ := if_some h
  exact ⟨_, _, hx.str, hy.int, c.1, c.2.1, c.2.2, okV_cl s h (.str _)⟩
theorem n_mulS : ∀ a b, noEx (dMulS a b) := by
  intro a b; unfold dMulS; (try unfold cI cB cD oD); repeat' (first | trivial | split)
end Fs

set_option maxHeartbeats 1000000
namespace Fs
open PySem PySem.Spec L2

/-! ### evaluation by equations -/
def bR (o : Out R) (k : R → Out R) : Out R := match o with
  | .ok r => k r
  | .ex c => .ex c
  | .st => .st
@[simp] theorem bR_ok (r : R) (k : R → Out R) : bR (.ok r) k = k r := rfl
@[simp] theorem bR_ex (c : String) (k : R → Out R) : bR (.ex c) k = .ex c := rfl
@[simp] theorem R.d_cl (d : D) : (R.cl d).d = d := rfl
@[simp] theorem R.d_ow (d : D) : (R.ow d).d = d := rfl
@[simp] theorem R.d_bo (d : D) : (R.bo d).d = d := rfl
def vR : Option Slot → Out R
  | some (.sh d) => .ok (.cl d)
  | some (.ow d) => .ok (.bo d)
  | _ => .st
@[simp] theorem vR_sh (d : D) : vR (some (.sh d)) = .ok (.cl d) := rfl
@[simp] theorem vR_ow (d : D) : vR (some (.ow d)) = .ok (.bo d) := rfl
@[simp] theorem q_var (i : Nat) (env : Env) : eVar i env = vR env[i]? := by
  unfold eVar vR
  cases env[i]? with
  | none => rfl
  | some s => cases s <;> rfl
@[simp] theorem q_c (d : D) (env : Env) : eC d env = .ok (.cl d) := rfl
@[simp] theorem q_e1 (φ : D → Out R) (f : Sx) (env : Env) : e1 φ f env = bR (f env) fun r => φ r.d := rfl
@[simp] theorem q_e2 (φ : D → D → Out R) (f g : Sx) (env : Env) : e2 φ f g env = bR (f env) fun r => bR (g env) fun q => φ r.d q.d := rfl
/-- arguments -/
def bA (o : Out R) (k : Out (List D)) : Out (List D) := match o with
  | .ok (.bo _) => .st
  | .ok r => consO r.d k
  | .ex c => .ex c
  | .st => .st
@[simp] theorem bA_cl (d : D) (k : Out (List D)) : bA (.ok (.cl d)) k = consO d k := rfl
@[simp] theorem bA_ow (d : D) (k : Out (List D)) : bA (.ok (.ow d)) k = consO d k := rfl
@[simp] theorem bA_ex (c : String) (k : Out (List D)) : bA (.ex c) k = .ex c := rfl
@[simp] theorem consO_ok (d : D) (ds : List D) : consO d (.ok ds) = .ok (d :: ds) := rfl
@[simp] theorem consO_ex (d : D) (c : String) : consO d (.ex c) = .ex c := rfl
@[simp] theorem q_args0 (env : Env) : evArgs [] env = .ok [] := rfl
@[simp] theorem q_args (f : Sx) (fs : List Sx) (env : Env) : evArgs (f :: fs) env = bA (f env) (evArgs fs env) := by
  show evArgs (f :: fs) env = _
  unfold bA
  conv => lhs; unfold evArgs
  all_goals (cases f env with
  | ok r => cases r <;> rfl
  | ex c => rfl
  | st => rfl)
@[simp] theorem mapO_ok (φ : List D → Out R) (ds : List D) : mapO φ (.ok ds) = φ ds := rfl
@[simp] theorem mapO_ex (φ : List D → Out R) (c : String) : mapO φ (.ex c) = .ex c := rfl
@[simp] theorem q_tup (fs : List Sx) (env : Env) : eTup fs env = mapO (fun ds => .ok (.cl (.tup ds))) (evArgs fs env) := rfl
@[simp] theorem q_lst (fs : List Sx) (env : Env) : eLst fs env = mapO (fun ds => .ok (.ow (.lst ds))) (evArgs fs env) := rfl
@[simp] theorem q_call (g : List D → Out R) (fs : List Sx) (env : Env) : eCall g fs env = mapO g (evArgs fs env) := rfl
/-- tests -/
def bT (o : Out Bool) (k : Bool → Out Bool) : Out Bool := match o with
  | .ok b => k b
  | .ex c => .ex c
  | .st => .st
@[simp] theorem bT_ok (b : Bool) (k : Bool → Out Bool) : bT (.ok b) k = k b := rfl
@[simp] theorem bT_ex (c : String) (k : Bool → Out Bool) : bT (.ex c) k = .ex c := rfl
@[simp] theorem oB_bl (b : Bool) : oB (.ok (.cl (.bl b))) = .ok b := rfl
@[simp] theorem oB_exc (c : String) : oB (.ex c) = .ex c := rfl
@[simp] theorem q_tB (f : Sx) (env : Env) : Fs.tB f env = oB (f env) := rfl
@[simp] theorem q_not (f : Tx) (env : Env) : tNotF f env = bT (f env) fun b => .ok (!b) := rfl
@[simp] theorem q_and (f g : Tx) (env : Env) : tAndF f g env = bT (f env) fun b => if b then g env else .ok false := rfl
@[simp] theorem q_or (f g : Tx) (env : Env) : tOrF f g env = bT (f env) fun b => if b then .ok true else g env := rfl
def bB (o : Out Bool) (k : Bool → Out R) : Out R := match o with
  | .ok b => k b
  | .ex c => .ex c
  | .st => .st
@[simp] theorem bB_ok (b : Bool) (k : Bool → Out R) : bB (.ok b) k = k b := rfl
@[simp] theorem bB_ex (c : String) (k : Bool → Out R) : bB (.ex c) k = .ex c := rfl
@[simp] theorem q_eNot (f : Sx) (env : Env) : eNot f env = bB (oB (f env)) fun b => .ok (.cl (.bl (!b))) := by
  unfold eNot eT tNotF Fs.tB
  cases oB (f env) <;> rfl
@[simp] theorem q_eAnd (f g : Sx) (env : Env) : eAnd f g env = bB (oB (f env)) fun b => if b then g env else .ok (.cl (.bl false)) := rfl
@[simp] theorem q_eOr (f g : Sx) (env : Env) : eOr f g env = bB (oB (f env)) fun b => if b then .ok (.cl (.bl true)) else g env := rfl
@[simp] theorem q_eIf (t : Tx) (f g : Sx) (env : Env) : eIf t f g env = bB (t env) fun b => if b then f env else g env := rfl
@[simp] theorem q_chain (φ ψ : D → D → Out R) (f g h : Sx) (env : Env) : eChain φ ψ f g h env = bR (f env) fun a => bR (g env) fun b => bB (oB (φ a.d b.d)) fun k => if k then bR (h env) fun c => ψ b.d c.d else .ok (.cl (.bl false)) := by
  unfold eChain
  cases f env with
  | ex c => rfl
  | st => rfl
  | ok a =>
    cases g env with
    | ex c => rfl
    | st => rfl
    | ok b => 
      rw [bR_ok, bR_ok]
      simp only []
      cases oB (φ a.d b.d) with
      | ok k => rfl
      | ex c => rfl
      | st => rfl
/-- slices -/
def bO (o : Out (Option Int)) (k : Option Int → Out R) : Out R := match o with
  | .ok i => k i
  | .ex c => .ex c
  | .st => .st
@[simp] theorem bO_ok (i : Option Int) (k : Option Int → Out R) : bO (.ok i) k = k i := rfl
@[simp] theorem oInt_int (i : Int) : oInt (.ok (.cl (.int i))) = .ok (some i) := rfl
@[simp] theorem q_cut (f : Sx) (l h : Option Sx) (env : Env) : eCut f l h env = bR (f env) fun r => bO (ePart l env) fun lo => bO (ePart h env) fun hi => dCut r.d lo hi := rfl
@[simp] theorem q_part0 (env : Env) : ePart none env = .ok none := rfl
@[simp] theorem q_part (f : Sx) (env : Env) : ePart (some f) env = oInt (f env) := rfl
/-- statements -/
def bS (o : SO) (k : Env → SO) : SO := match o with
  | .nx e => k e
  | o => o
@[simp] theorem bS_nx (e : Env) (k : Env → SO) : bS (.nx e) k = k e := rfl
@[simp] theorem bS_rt (r : R) (k : Env → SO) : bS (.rt r) k = .rt r := rfl
@[simp] theorem bS_ex (c : String) (e : Env) (k : Env → SO) : bS (.ex c e) k = .ex c e := rfl
@[simp] theorem bS_bk (e : Env) (k : Env → SO) : bS (.bk e) k = .bk e := rfl
@[simp] theorem bS_ct (e : Env) (k : Env → SO) : bS (.ct e) k = .ct e := rfl
@[simp] theorem q_seq (f g : Stx) (env : Env) : sSeq f g env = bS (f env) g := by
  unfold sSeq bS
  cases f env <;> rfl
@[simp] theorem q_skip (env : Env) : sSkip env = .nx env := rfl
def bX (o : Out R) (env : Env) (k : R → Env → SO) : SO := match o with
  | .ok r => k r env
  | .ex c => .ex c env
  | .st => .st
@[simp] theorem bX_ok (r : R) (env : Env) (k : R → Env → SO) : bX (.ok r) env k = k r env := rfl
@[simp] theorem bX_ex (c : String) (env : Env) (k : R → Env → SO) : bX (.ex c) env k = .ex c env := rfl
def kDrop (_ : R) (env : Env) : SO := .nx env
def kRet (r : R) (_ : Env) : SO := match r with
  | .bo _ => .st
  | r => .rt r
def kSet (i : Nat) (r : R) (env : Env) : SO := match slotOf r with
  | some s => .nx (env.set i s)
  | none => .st
@[simp] theorem kDrop_eq (r : R) (env : Env) : kDrop r env = .nx env := rfl
@[simp] theorem kRet_cl (d : D) (env : Env) : kRet (.cl d) env = .rt (.cl d) := rfl
@[simp] theorem kRet_ow (d : D) (env : Env) : kRet (.ow d) env = .rt (.ow d) := rfl
@[simp] theorem kSet_cl (i : Nat) (d : D) (env : Env) : kSet i (.cl d) env = .nx (env.set i (.sh d)) := rfl
@[simp] theorem kSet_ow (i : Nat) (d : D) (env : Env) : kSet i (.ow d) env = .nx (env.set i (.ow d)) := rfl
@[simp] theorem q_drop (f : Sx) (env : Env) : sDrop f env = bX (f env) env kDrop := rfl
@[simp] theorem q_ret (f : Sx) (env : Env) : sRet f env = bX (f env) env kRet := by
  unfold sRet sRun bX
  cases f env with
  | ok r => cases r <;> rfl
  | ex c => rfl
  | st => rfl
@[simp] theorem q_set (i : Nat) (f : Sx) (env : Env) : sSet i f env = bX (f env) env (kSet i) := rfl
def rV : Option Slot → SO
  | some (.sh d) => .rt (.cl d)
  | some (.ow d) => .rt (.ow d)
  | _ => .st
@[simp] theorem rV_sh (d : D) : rV (some (.sh d)) = .rt (.cl d) := rfl
@[simp] theorem rV_ow (d : D) : rV (some (.ow d)) = .rt (.ow d) := rfl
@[simp] theorem q_retV (i : Nat) (env : Env) : sRetV i env = rV env[i]? := by
  unfold sRetV rV
  cases env[i]? with
  | none => rfl
  | some s => cases s <;> rfl
def bI (o : Out Bool) (env : Env) (f g : Stx) : SO := match o with
  | .ok b => if b then f env else g env
  | .ex c => .ex c env
  | .st => .st
@[simp] theorem bI_true (env : Env) (f g : Stx) : bI (.ok true) env f g = f env := rfl
@[simp] theorem bI_false (env : Env) (f g : Stx) : bI (.ok false) env f g = g env := rfl
@[simp] theorem bI_ex (c : String) (env : Env) (f g : Stx) : bI (.ex c) env f g = .ex c env := rfl
@[simp] theorem q_if (t : Tx) (f g : Stx) (env : Env) : sIf t f g env = bI (t env) env f g := rfl
def bF (o : Out (Bool × List D)) (env : Env) (k : List D → SO) : SO := match o with
  | .ok (true, ds) => k ds
  | .ok (false, _) => .st
  | .ex c => .ex c env
  | .st => .st
@[simp] theorem bF_ok (ds : List D) (env : Env) (k : List D → SO) : bF (.ok (true, ds)) env k = k ds := rfl
@[simp] theorem q_for (src : Ix) (t : Tgt) (b : Stx) (env : Env) : sFor src t b env = bF (src env) env fun ds => loopF t b ds env := by
  unfold sFor bF
  cases src env with
  | ok x => obtain ⟨k, ds⟩ := x; cases k <;> rfl
  | ex c => rfl
  | st => rfl
def bQ (o : Out R) : Out (Bool × List D) := match o with
  | .ok r => (match itemsOf r.d with
    | some ds => .ok (r.kept, ds)
    | none => .st)
  | .ex c => .ex c
  | .st => .st
@[simp] theorem bQ_lst (ds : List D) : bQ (.ok (.cl (.lst ds))) = .ok (true, ds) := rfl
@[simp] theorem bQ_tup (ds : List D) : bQ (.ok (.cl (.tup ds))) = .ok (true, ds) := rfl
@[simp] theorem bQ_scr (ns : List Int) : bQ (.ok (.cl (.scr ns))) = .ok (true, ns.map D.int) := rfl
@[simp] theorem bQ_ow (ds : List D) : bQ (.ok (.ow (.lst ds))) = .ok (true, ds) := rfl
@[simp] theorem bQ_bo (ds : List D) : bQ (.ok (.bo (.lst ds))) = .ok (false, ds) := rfl
@[simp] theorem q_seqI (f : Sx) (env : Env) : iSeq f env = bQ (f env) := rfl
def bN1 (o : Out (List D)) : Out (Bool × List D) := match o with
  | .ok [.int j] => if smallI j then .ok (true, rangeD 0 j.toNat) else .st
  | .ok _ => .st
  | .ex c => .ex c
  | .st => .st
def bN2 (o : Out (List D)) : Out (Bool × List D) := match o with
  | .ok [.int i, .int j] => if smallI i && smallI j then .ok (true, rangeD i (j - i).toNat) else .st
  | .ok _ => .st
  | .ex c => .ex c
  | .st => .st
@[simp] theorem bN1_ok (j : Int) : bN1 (.ok [.int j]) = if smallI j then .ok (true, rangeD 0 j.toNat) else .st := rfl
@[simp] theorem bN2_ok (i j : Int) : bN2 (.ok [.int i, .int j]) = if smallI i && smallI j then .ok (true, rangeD i (j - i).toNat) else .st := rfl
@[simp] theorem q_range1 (fs : List Sx) (env : Env) : iRange1 fs env = bN1 (evArgs fs env) := rfl
@[simp] theorem q_range2 (fs : List Sx) (env : Env) : iRange2 fs env = bN2 (evArgs fs env) := rfl
def bC (o : Out (Bool × List D)) (k : List D → Out (List D)) : Out R := match o with
  | .ok (_, ds) => (match k ds with
    | .ok rs => .ok (.ow (.lst rs))
    | _ => .st)
  | .ex c => .ex c
  | .st => .st
@[simp] theorem bC_ok (b : Bool) (ds : List D) (k : List D → Out (List D)) {rs : List D} (h : k ds = .ok rs) : bC (.ok (b, ds)) k = .ok (.ow (.lst rs)) := by
  show (match k ds with | .ok rs => Out.ok (R.ow (D.lst rs)) | _ => .st) = _
  rw [h]
@[simp] theorem q_comp (src : Ix) (t : Tgt) (c : Tx) (f : Sx) (vs : List Nat) (env : Env) : eComp src t c f vs env = bC (src env) fun ds => compF t c f ds (wipeE env vs) := rfl
/-- own objects -/
def bM (ty : D → Bool) (i : Nat) (k : D → D → Option D) (s : Option Slot) (o : Out R) (env : Env) : SO := match s with
  | some (.ow d) => if ty d then (match o with
    | .ok (.bo _) => .st
    | .ok r => (match k d r.d with
      | some d' => .nx (env.set i (.ow d'))
      | none => .st)
    | .ex c => .ex c env
    | .st => .st) else .st
  | _ => .st
@[simp] theorem q_mut (ty : D → Bool) (i : Nat) (f : Sx) (k : D → D → Option D) (env : Env) : sMut ty i f k env = bM ty i k env[i]? (f env) env := by
  unfold sMut bM
  cases env[i]? with
  | none => rfl
  | some s => cases s <;> rfl
def bMk (i : Nat) (env : Env) : Option D → SO
  | some d' => .nx (env.set i (.ow d'))
  | none => .st
@[simp] theorem bMk_some (i : Nat) (env : Env) (d : D) : bMk i env (some d) = .nx (env.set i (.ow d)) := rfl
@[simp] theorem bM_cl (i : Nat) (k : D → D → Option D) (ds : List D) (d : D) (env : Env) : bM isL i k (some (.ow (.lst ds))) (.ok (.cl d)) env = bMk i env (k (.lst ds) d) := by
  show (match k (.lst ds) d with | some d' => SO.nx (env.set i (.ow d')) | none => .st) = _
  cases k (.lst ds) d <;> rfl
@[simp] theorem bM_ow (i : Nat) (k : D → D → Option D) (ds : List D) (d : D) (env : Env) : bM isL i k (some (.ow (.lst ds))) (.ok (.ow d)) env = bMk i env (k (.lst ds) d) := by
  show (match k (.lst ds) d with | some d' => SO.nx (env.set i (.ow d')) | none => .st) = _
  cases k (.lst ds) d <;> rfl
theorem k_append {ds : List D} {a : D} (h : ds.length < 16777216) : kAppend (.lst ds) a = some (.lst (ds ++ [a])) := if_pos h
theorem k_extend {ds es : List D} (h : ds.length + es.length ≤ 16777216) : kExtend (.lst ds) (.lst es) = some (.lst (ds ++ es)) := if_pos h
@[simp] theorem outS_nx (e : Env) : outS (.nx e) = .ok (.cl .non) := rfl
@[simp] theorem outS_rt (r : R) : outS (.rt r) = .ok r := rfl
@[simp] theorem outS_ex (c : String) (e : Env) : outS (.ex c e) = .ex c := rfl
@[simp] theorem q_raise (c : String) (env : Env) : sRaise c env = .ex c env := rfl

/-! ### giving away; putting by place or key -/
def bFz (i : Nat) (s : Option Slot) (env : Env) : SO := match s with
  | some (.ow d) => .nx (env.set i (.sh d))
  | _ => .nx env
@[simp] theorem q_freeze (i : Nat) (env : Env) : sFreeze i env = bFz i env[i]? env := by
  unfold sFreeze bFz
  cases env[i]? with
  | none => rfl
  | some s => cases s <;> rfl
@[simp] theorem bFz_ow (i : Nat) (d : D) (env : Env) : bFz i (some (.ow d)) env = .nx (env.set i (.sh d)) := rfl
@[simp] theorem bFz_sh (i : Nat) (d : D) (env : Env) : bFz i (some (.sh d)) env = .nx env := rfl
@[simp] theorem bFz_un (i : Nat) (env : Env) : bFz i (some .un) env = .nx env := rfl
/-- what is stored: the value, the object's slot, the key -/
def bZ (i : Nat) (v : Out R) (s : Option Slot) (k : Out R) (env : Env) : SO := match v with
  | .ok (.bo _) => .st
  | .ok r => (match s with
    | some (.ow (.lst ds)) => (match k with
      | .ok q => (match q.d with
        | .int n => (match L2.ixN ds.length n with
          | some j => .nx (env.set i (.ow (.lst (ds.set j r.d))))
          | none => .st)
        | _ => .st)
      | .ex c => .ex c env
      | .st => .st)
    | some (.ow (.dct kvs)) => (match k with
      | .ok q => (match dKey q.d with
        | some k => if kvs.length < 16777216 then .nx (env.set i (.ow (.dct (dPut kvs k r.d)))) else .st
        | _ => .st)
      | .ex c => .ex c env
      | .st => .st)
    | _ => .st)
  | .ex c => .ex c env
  | .st => .st
@[simp] theorem q_setIx (i : Nat) (fi fv : Sx) (env : Env) : sSetIx i fi fv env = bZ i (fv env) env[i]? (fi env) env := rfl
theorem bZ_lst {i : Nat} {v : D} {ds : List D} {n : Int} {env : Env} (h0 : 0 ≤ n) (h : n < ds.length) : bZ i (.ok (.cl v)) (some (.ow (.lst ds))) (.ok (.cl (.int n))) env = .nx (env.set i (.ow (.lst (ds.set n.toNat v)))) := by
  show (match L2.ixN ds.length n with | some j => SO.nx (env.set i (.ow (.lst (ds.set j v)))) | none => .st) = _
  unfold L2.ixN
  rw [if_pos h0, if_pos h]
theorem bZ_lstO {i : Nat} {v : D} {ds : List D} {n : Int} {env : Env} (h0 : 0 ≤ n) (h : n < ds.length) : bZ i (.ok (.ow v)) (some (.ow (.lst ds))) (.ok (.cl (.int n))) env = .nx (env.set i (.ow (.lst (ds.set n.toNat v)))) := by
  show (match L2.ixN ds.length n with | some j => SO.nx (env.set i (.ow (.lst (ds.set j v)))) | none => .st) = _
  unfold L2.ixN
  rw [if_pos h0, if_pos h]
theorem bZ_dct {i : Nat} {v : D} {kvs : List (L2.Key × D)} {n : Int} {env : Env} (h : kvs.length < 16777216) : bZ i (.ok (.cl v)) (some (.ow (.dct kvs))) (.ok (.cl (.int n))) env = .nx (env.set i (.ow (.dct (dPut kvs (.inl n) v)))) := if_pos h
theorem bZ_dctO {i : Nat} {v : D} {kvs : List (L2.Key × D)} {n : Int} {env : Env} (h : kvs.length < 16777216) : bZ i (.ok (.ow v)) (some (.ow (.dct kvs))) (.ok (.cl (.int n))) env = .nx (env.set i (.ow (.dct (dPut kvs (.inl n) v)))) := if_pos h
theorem bQ_cl {d : D} {ds : List D} (h : itemsOf d = some ds) : bQ (.ok (.cl d)) = .ok (true, ds) := by
  show (match itemsOf d with | some ds => Out.ok (true, ds) | none => .st) = _
  rw [h]

/-- own objects, without an argument -/
def bM0 (i : Nat) (k : D → Option D) (s : Option Slot) (env : Env) : SO := match s with
  | some (.ow d) => bMk i env (k d)
  | _ => .st
@[simp] theorem q_mut0 (ty : D → Bool) (i : Nat) (k : D → Option D) (env : Env) : sMut0 ty i k env = bM0 i k env[i]? env := by
  unfold sMut0 bM0 bMk
  cases env[i]? with
  | none => rfl
  | some s =>
    cases s with
    | ow d => (try simp only []) <;> (cases k d <;> rfl)
    | sh d => rfl
    | un => rfl
    | exc _ => rfl
@[simp] theorem bM0_ow (i : Nat) (k : D → Option D) (d : D) (env : Env) : bM0 i k (some (.ow d)) env = bMk i env (k d) := rfl
@[simp] theorem k_clear (ds : List D) : kClear (.lst ds) = some (.lst []) := rfl

/-- (a, b, ..) = e -/
def bMb (o : Option Env) : SO := match o with
  | some e => .nx e
  | none => .st
def kAsg (t : Tgt) (r : R) (env : Env) : SO := match r with
  | .bo _ => .st
  | r => bMb (bindT t r.d env)
@[simp] theorem q_asgT (t : Tgt) (f : Sx) (env : Env) : sAsgT t f env = bX (f env) env (kAsg t) := by
  unfold sAsgT sRun bX
  cases f env with
  | ok r => cases r <;> rfl
  | ex c => rfl
  | st => rfl
@[simp] theorem kAsg_cl (t : Tgt) (d : D) (env : Env) : kAsg t (.cl d) env = bMb (bindT t d env) := rfl
@[simp] theorem bMb_some (e : Env) : bMb (some e) = .nx e := rfl
@[simp] theorem bind_many (is : List Nat) (ds : List D) (env : Env) : bindT (.many is) (.tup ds) env = if ds.length = is.length then some (setMany env is ds) else none := rfl
/-- two at once -/
def bP (i j : Nat) (o : Out (List D)) (env : Env) : SO := match o with
  | .ok [a, b] => .nx ((env.set i (.sh a)).set j (.sh b))
  | .ok _ => .st
  | .ex c => .ex c env
  | .st => .st

@[simp] theorem q_par (i j : Nat) (fs : List Sx) (env : Env) : sPar i j fs env = bP i j (evArgs fs env) env := rfl
@[simp] theorem bP_ok (i j : Nat) (a b : D) (env : Env) : bP i j (.ok [a, b]) env = .nx ((env.set i (.sh a)).set j (.sh b)) := rfl
@[simp] theorem bP_ex (i j : Nat) (c : String) (env : Env) : bP i j (.ex c) env = .ex c env := rfl

/-! ### loops -/
@[simp] theorem loop_nil (t : Tgt) (b : Stx) (env : Env) : loopF t b [] env = .nx env := by unfold loopF; rfl
def bL (o : SO) (k : Env → SO) : SO := match o with
  | .nx e => k e
  | .ct e => k e
  | .bk e => .nx e
  | o => o
@[simp] theorem bL_nx (e : Env) (k : Env → SO) : bL (.nx e) k = k e := rfl
@[simp] theorem bL_ct (e : Env) (k : Env → SO) : bL (.ct e) k = k e := rfl
@[simp] theorem bL_bk (e : Env) (k : Env → SO) : bL (.bk e) k = .nx e := rfl
@[simp] theorem bL_rt (r : R) (k : Env → SO) : bL (.rt r) k = .rt r := rfl
@[simp] theorem bL_ex (c : String) (e : Env) (k : Env → SO) : bL (.ex c e) k = .ex c e := rfl
theorem loop_one (i : Nat) (b : Stx) (d : D) (ds : List D) (env : Env) : loopF (.one i) b (d :: ds) env = bL (b (env.set i (.sh d))) fun e => loopF (.one i) b ds e := by
  conv => lhs; unfold loopF
  show (match b (env.set i (.sh d)) with | .nx e => loopF (.one i) b ds e | .ct e => loopF (.one i) b ds e | .bk e => .nx e | o => o) = _
  unfold bL
  cases b (env.set i (.sh d)) <;> rfl
theorem loop_many (is : List Nat) (b : Stx) (d : List D) (ds : List D) (env : Env) (h : d.length = is.length) : loopF (.many is) b (.tup d :: ds) env = bL (b (setMany env is d)) fun e => loopF (.many is) b ds e := by
  conv => lhs; unfold loopF
  have e : bindT (.many is) (.tup d) env = some (setMany env is d) := by
    show (if d.length = is.length then some (setMany env is d) else none) = _
    rw [if_pos h]
  rw [e]
  unfold bL
  show (match b (setMany env is d) with | .nx e => loopF (.many is) b ds e | .ct e => loopF (.many is) b ds e | .bk e => .nx e | o => o) = _
  cases b (setMany env is d) <;> rfl
/-- a loop that folds: E a x is the environment with the fold's value a, the target's slot x -/
theorem loop_fold {α β : Type} {i : Nat} {b : Stx} (E : α → Slot → Env) (j : β → D) (step : α → β → α) (P : α → Prop) {xs : List β}
    (hset : ∀ a x y, (E a x).set i y = E a y) (turn : ∀ a x, x ∈ xs → P a → b (E a (.sh (j x))) = .nx (E (step a x) (.sh (j x)))) (keep : ∀ a x, x ∈ xs → P a → P (step a x)) :
    ∀ (a : α) (s : Slot), P a → ∃ s', loopF (.one i) b (xs.map j) (E a s) = .nx (E (xs.foldl step a) s') := by
  induction xs with
  | nil => exact fun a s _ => ⟨s, loop_nil _ _ _⟩
  | cons x xs ih =>
    intro a s h
    rw [List.map_cons, loop_one, hset, turn a x List.mem_cons_self h, bL_nx]
    exact ih (fun a y hy => turn a y (List.mem_cons_of_mem _ hy)) (fun a y hy => keep a y (List.mem_cons_of_mem _ hy)) _ _ (keep a x List.mem_cons_self h)
/-- comprehensions -/
theorem comp_one {i : Nat} {c : Tx} {f : Sx} {env : Env} {β : Type} (j h : β → D) : ∀ (xs : List β), (∀ x ∈ xs, c (env.set i (.sh (j x))) = .ok true) → (∀ x ∈ xs, f (env.set i (.sh (j x))) = .ok (.cl (h x)) ∨ f (env.set i (.sh (j x))) = .ok (.ow (h x))) →
    compF (.one i) c f (xs.map j) env = .ok (xs.map h)
  | [], _, _ => by unfold compF; rfl
  | x :: xs, hc, hf => by
    have ih := comp_one j h xs (fun y hy => hc y (List.mem_cons_of_mem _ hy)) (fun y hy => hf y (List.mem_cons_of_mem _ hy))
    rw [List.map_cons]
    unfold compF
    show (match c (env.set i (.sh (j x))) with | .ok true => _ | .ok false => _ | _ => _) = _
    rw [hc x List.mem_cons_self]
    simp only []
    rcases hf x List.mem_cons_self with e | e <;> rw [e] <;> simp only [] <;> rw [ih] <;> rfl
theorem comp_filter {i : Nat} {c : Tx} {f : Sx} {env : Env} {β : Type} (j h : β → D) (p : β → Bool) : ∀ (xs : List β), (∀ x ∈ xs, c (env.set i (.sh (j x))) = .ok (p x)) → (∀ x ∈ xs, p x = true → f (env.set i (.sh (j x))) = .ok (.cl (h x)) ∨ f (env.set i (.sh (j x))) = .ok (.ow (h x))) →
    compF (.one i) c f (xs.map j) env = .ok ((xs.filter p).map h)
  | [], _, _ => by unfold compF; rfl
  | x :: xs, hc, hf => by
    have ih := comp_filter j h p xs (fun y hy => hc y (List.mem_cons_of_mem _ hy)) (fun y hy => hf y (List.mem_cons_of_mem _ hy))
    rw [List.map_cons]
    unfold compF
    show (match c (env.set i (.sh (j x))) with | .ok true => _ | .ok false => _ | _ => _) = _
    rw [hc x List.mem_cons_self]
    cases e0 : p x with
    | false =>
      simp only []
      rw [ih, List.filter_cons_of_neg (by rw [e0]; exact Bool.false_ne_true)]
    | true =>
      simp only []
      rw [List.filter_cons_of_pos e0]
      rcases hf x List.mem_cons_self e0 with e | e <;> rw [e] <;> simp only [] <;> rw [ih] <;> rfl

/-! ### methods, exceptions in hand -/
@[simp] theorem q_eM (ty : D → Bool) (φ : D → D → Out R) (f g : Sx) (env : Env) : eM ty φ f g env = bTy ty (f env) (bR (f env) fun r => bR (g env) fun q => φ r.d q.d) := rfl
@[simp] theorem isL_lst (ds : List D) : isL (.lst ds) = true := rfl
@[simp] theorem isTp_tup (ds : List D) : isTp (.tup ds) = true := rfl
def kGet (kvs : List (Key × D)) (k z : D) : Out R := match dKey k with
  | some k => cD ((dLook kvs k).getD z)
  | none => .st
def bGet (o p q : Out R) : Out R := match o with
  | .ok r => (match r.d with
    | .dct kvs => (match p with
      | .ok rk => (match q with
        | .ok (.cl z) => kGet kvs rk.d z
        | .ok _ => .st
        | .ex c => .ex c
        | .st => .st)
      | .ex c => .ex c
      | .st => .st)
    | _ => .st)
  | .ex c => .ex c
  | .st => .st
@[simp] theorem q_get (f g k : Sx) (env : Env) : eGet f g k env = bGet (f env) (g env) (k env) := rfl
@[simp] theorem bGet_cl (kvs : List (Key × D)) (r : R) (z : D) : bGet (.ok (.cl (.dct kvs))) (.ok r) (.ok (.cl z)) = kGet kvs r.d z := rfl
@[simp] theorem bGet_bo (kvs : List (Key × D)) (r : R) (z : D) : bGet (.ok (.bo (.dct kvs))) (.ok r) (.ok (.cl z)) = kGet kvs r.d z := rfl
@[simp] theorem bGet_ow (kvs : List (Key × D)) (r : R) (z : D) : bGet (.ok (.ow (.dct kvs))) (.ok r) (.ok (.cl z)) = kGet kvs r.d z := rfl
def bE (b : Bool) (o : Out R) : Out R := if b = true then o else .st
@[simp] theorem bE_true (o : Out R) : bE true o = o := rfl
@[simp] theorem isExc_self (a : Addr) : isExc a (some (.exc a)) = true := decide_eq_true rfl
@[simp] theorem q_exc (i : Nat) (a : Addr) (o : Out R) (env : Env) : eExc i a o env = bE (isExc a env[i]?) o := rfl
def bSub (b : Option Bool) (c : String) (e : Env) (o : SO) : SO := match b with
  | some true => o
  | some false => .ex c e
  | none => .st
@[simp] theorem bSub_true (c : String) (e : Env) (o : SO) : bSub (some true) c e o = o := rfl
@[simp] theorem bSub_false (c : String) (e : Env) (o : SO) : bSub (some false) c e o = .ex c e := rfl
noncomputable def bTry (i : Nat) (sub : String → Option Bool) (hs : String → Addr → Stx) (o : SO) : SO := match o with
  | .ex c e => bSub (sub c) c e (sameS fun a => endAt i (hs c a (e.set i (.exc a))))
  | o => o
@[simp] theorem q_try (i : Nat) (sub : String → Option Bool) (b : Stx) (hs : String → Addr → Stx) (env : Env) : sTry i sub b hs env = bTry i sub hs (b env) := by
  unfold sTry bTry bSub
  cases b env <;> rfl
@[simp] theorem bTry_nx (i : Nat) (sub : String → Option Bool) (hs : String → Addr → Stx) (e : Env) : bTry i sub hs (.nx e) = .nx e := rfl
@[simp] theorem bTry_rt (i : Nat) (sub : String → Option Bool) (hs : String → Addr → Stx) (r : R) : bTry i sub hs (.rt r) = .rt r := rfl
@[simp] theorem bTry_bk (i : Nat) (sub : String → Option Bool) (hs : String → Addr → Stx) (e : Env) : bTry i sub hs (.bk e) = .bk e := rfl
@[simp] theorem bTry_ct (i : Nat) (sub : String → Option Bool) (hs : String → Addr → Stx) (e : Env) : bTry i sub hs (.ct e) = .ct e := rfl
@[simp] theorem bTry_ex (i : Nat) (sub : String → Option Bool) (hs : String → Addr → Stx) (c : String) (e : Env) : bTry i sub hs (.ex c e) = bSub (sub c) c e (sameS fun a => endAt i (hs c a (e.set i (.exc a)))) := rfl
@[simp] theorem endAt_nx (i : Nat) (e : Env) : endAt i (.nx e) = .nx (e.set i .un) := rfl
@[simp] theorem endAt_rt (i : Nat) (r : R) : endAt i (.rt r) = .rt r := rfl
theorem gE_at {n : Nat} {sub : String → Option Bool} {body : String → Addr → Stx} {c : String} {o : Out R} (h : sub c = some true) (k : ∀ a, outS (body c a (.exc a :: List.replicate (n - 1) .un)) = o) : gE n sub body c = o := by
  unfold gE
  rw [h]
  show sameR _ = _
  rw [show (fun a => outS (body c a (.exc a :: List.replicate (n - 1) .un))) = fun _ => o from funext k, sameR_const]
/-- the classes of a law: who is whose -/
def exTab (l : List String) (c n : String) : Option Bool := if c ∈ l then (if n = "SetError" ∨ n = "ValueError" then some true else some (decide (c = n))) else none
theorem exTab_in {l : List String} {c n : String} {b : Bool} (h : exTab l c n = some b) : c ∈ l := by
  unfold exTab at h
  by_cases k : c ∈ l
  · exact k
  · rw [if_neg k] at h; cases h
/-- turns of a loop that lessens the number in a slot -/
def fuelAt (i : Nat) (e : Env) : Nat := match e[i]? with
  | some (.sh (.int k)) => k.natAbs + 2
  | _ => 0
/-! ### pop into append -/
def bPop (i j : Nat) (s t : Option Slot) (o : Out R) (env : Env) : SO := match s, t with
  | some (.ow (.lst as)), some (.ow (.lst bs)) => (match o with
    | .ok r => (match r.d with
      | .int n => if 0 ≤ n ∧ n < bs.length ∧ as.length < 16777216 ∧ bs.length ≤ 16777216 ∧ i ≠ j then (match bs[n.toNat]? with
        | some d => .nx ((env.set j (.ow (.lst (bs.eraseIdx n.toNat)))).set i (.ow (.lst (as ++ [d]))))
        | none => .st) else .st
      | _ => .st)
    | .ex c => .ex c env
    | .st => .st)
  | _, _ => .st
@[simp] theorem q_popApp (i j : Nat) (f : Sx) (env : Env) : sPopApp i j f env = bPop i j env[i]? env[j]? (f env) env := rfl
theorem bPop_ok {i j : Nat} {as bs : List D} {n : Int} {d : D} {env : Env} (h0 : 0 ≤ n) (h1 : n < bs.length) (ha : as.length < 16777216) (hb : bs.length ≤ 16777216) (hij : i ≠ j) (e : bs[n.toNat]? = some d) :
    bPop i j (some (.ow (.lst as))) (some (.ow (.lst bs))) (.ok (.cl (.int n))) env = .nx ((env.set j (.ow (.lst (bs.eraseIdx n.toNat)))).set i (.ow (.lst (as ++ [d])))) := by
  show (if _ then _ else _) = _
  rw [if_pos ⟨h0, h1, ha, hb, hij⟩, e]
def kAsgL (is : List Nat) (r : R) (env : Env) : SO := match r with
  | .bo _ => .st
  | r => bMb (bindL is r.d env)
@[simp] theorem q_asgL (is : List Nat) (f : Sx) (env : Env) : sAsgL is f env = bX (f env) env (kAsgL is) := by
  unfold sAsgL sRun bX
  cases f env with
  | ok r => cases r <;> rfl
  | ex c => rfl
  | st => rfl
@[simp] theorem kAsgL_cl (is : List Nat) (d : D) (env : Env) : kAsgL is (.cl d) env = bMb (bindL is d env) := rfl
@[simp] theorem kAsgL_ow (is : List Nat) (d : D) (env : Env) : kAsgL is (.ow d) env = bMb (bindL is d env) := rfl
@[simp] theorem bindL_lst (is : List Nat) (ds : List D) (env : Env) : bindL is (.lst ds) env = if ds.length = is.length then some (setMany env is ds) else none := rfl
/-! ### dicts under a lock -/
def bNz (o : Out R) : Out R := match o with
  | .ok r => if r.d.nz = true then .ok r else .st
  | _ => .st
@[simp] theorem bNz_ok (r : R) : bNz (.ok r) = if r.d.nz = true then .ok r else .st := rfl
def bLk (i : Nat) (s : Option Slot) (f : Sx) (env : Env) : Out R := match s with
  | some (.ow (.dct kvs)) => bNz (f (env.set i (.sh (.dcz kvs))))
  | _ => .st
@[simp] theorem bLk_ow (i : Nat) (kvs : List (Key × D)) (f : Sx) (env : Env) : bLk i (some (.ow (.dct kvs))) f env = bNz (f (env.set i (.sh (.dcz kvs)))) := rfl
@[simp] theorem q_lock (i : Nat) (f : Sx) (env : Env) : eLock i f env = bLk i env[i]? f env := rfl
def bZz (o : Out R) : Out R := match o with
  | .ok (.ow (.dct kvs)) => .ok (.cl (.dcz kvs))
  | .ok _ => .st
  | .ex c => .ex c
  | .st => .st
@[simp] theorem q_z (f : Sx) (env : Env) : eZ f env = bZz (f env) := rfl
@[simp] theorem bZz_ow (kvs : List (Key × D)) : bZz (.ok (.ow (.dct kvs))) = .ok (.cl (.dcz kvs)) := rfl
def bDz (g : List (Key × D) → List D) (o : Out R) : Out (Bool × List D) := match o with
  | .ok (.cl (.dcz kvs)) => if kvs.length ≤ 16777216 then .ok (true, g kvs) else .st
  | .ok _ => .st
  | .ex c => .ex c
  | .st => .st
@[simp] theorem q_dz (g : List (Key × D) → List D) (f : Sx) (env : Env) : iDz g f env = bDz g (f env) := rfl
@[simp] theorem bDz_cl (g : List (Key × D) → List D) (kvs : List (Key × D)) : bDz g (.ok (.cl (.dcz kvs))) = if kvs.length ≤ 16777216 then .ok (true, g kvs) else .st := rfl
@[simp] theorem nz_int (i : Int) : (D.int i).nz = true := rfl
@[simp] theorem nz_bl (i : Bool) : (D.bl i).nz = true := rfl
theorem nzL_map {α : Type} {f : α → D} (h : ∀ a, (f a).nz = true) : ∀ xs : List α, nzL (xs.map f) = true
  | [] => rfl
  | x :: r => by
    rw [List.map_cons]
    unfold nzL
    rw [h x, nzL_map h r]
    rfl
@[simp] theorem nz_ints (xs : List Int) : (D.lst (xs.map D.int)).nz = true := nzL_map (fun _ => rfl) xs
@[simp] theorem nz_bls {β : Type} (p : β → Bool) (xs : List β) : (D.lst (xs.map fun x => D.bl (p x))).nz = true := nzL_map (fun _ => rfl) xs
/-! ### zip -/
def bZp (o : Out (List D)) : Out (Bool × List D) := match o with
  | .ok [d, e] => (match seqD d, seqD e with
    | some ds, some es => if ds.length ≤ 16777216 then .ok (true, zipD ds es) else .st
    | _, _ => .st)
  | .ok _ => .st
  | .ex c => .ex c
  | .st => .st
@[simp] theorem q_zip (fs : List Sx) (env : Env) : iZip fs env = bZp (evArgs fs env) := rfl
@[simp] theorem bZp_tt (a b : List D) : bZp (.ok [.tup a, .tup b]) = if a.length ≤ 16777216 then .ok (true, zipD a b) else .st := rfl
@[simp] theorem bZp_tl (a b : List D) : bZp (.ok [.tup a, .lst b]) = if a.length ≤ 16777216 then .ok (true, zipD a b) else .st := rfl
@[simp] theorem bZp_lt (a b : List D) : bZp (.ok [.lst a, .tup b]) = if a.length ≤ 16777216 then .ok (true, zipD a b) else .st := rfl
@[simp] theorem bZp_ll (a b : List D) : bZp (.ok [.lst a, .lst b]) = if a.length ≤ 16777216 then .ok (true, zipD a b) else .st := rfl
/-! ### enumerate -/
def bEn (o : Out (List D)) : Out (Bool × List D) := match o with
  | .ok [d] => (match seqD d with
    | some ds => if ds.length ≤ 16777216 then .ok (true, enumD ds) else .st
    | _ => .st)
  | .ok _ => .st
  | .ex c => .ex c
  | .st => .st
@[simp] theorem q_enum (fs : List Sx) (env : Env) : iEn fs env = bEn (evArgs fs env) := rfl
@[simp] theorem bEn_t (a : List D) : bEn (.ok [.tup a]) = if a.length ≤ 16777216 then .ok (true, enumD a) else .st := rfl
@[simp] theorem bEn_l (a : List D) : bEn (.ok [.lst a]) = if a.length ≤ 16777216 then .ok (true, enumD a) else .st := rfl
/-! ### lent lists -/
def bLn (i : Nat) (s : Option Slot) (env : Env) (f : Tx) : Out Bool := match s with
  | some (.ow (.lst ds)) => f (env.set i (.sh (.lst ds)))
  | _ => f env
@[simp] theorem q_tLend (i : Nat) (f : Tx) (env : Env) : tLend i f env = bLn i env[i]? env f := by
  unfold tLend bLn
  generalize env[i]? = s
  cases s with
  | none => rfl
  | some s =>
    cases s with
    | ow d => cases d <;> rfl
    | _ => rfl
@[simp] theorem bLn_lst (i : Nat) (ds : List D) (env : Env) (f : Tx) : bLn i (some (.ow (.lst ds))) env f = f (env.set i (.sh (.lst ds))) := rfl
@[simp] theorem bLn_sh (i : Nat) (d : D) (env : Env) (f : Tx) : bLn i (some (.sh d)) env f = f env := rfl
def bLe (i : Nat) (s : Option Slot) (env : Env) (f : Sx) : Out R := match s with
  | some (.ow (.lst ds)) => kLend (f (env.set i (.sh (.lst ds))))
  | _ => f env
@[simp] theorem q_eLend (i : Nat) (f : Sx) (env : Env) : eLend i f env = bLe i env[i]? env f := by
  unfold eLend bLe
  generalize env[i]? = s
  cases s with
  | none => rfl
  | some s =>
    cases s with
    | ow d => cases d <;> rfl
    | _ => rfl
@[simp] theorem bLe_lst (i : Nat) (ds : List D) (env : Env) (f : Sx) : bLe i (some (.ow (.lst ds))) env f = kLend (f (env.set i (.sh (.lst ds)))) := rfl
@[simp] theorem bLe_sh (i : Nat) (d : D) (env : Env) (f : Sx) : bLe i (some (.sh d)) env f = f env := rfl
@[simp] theorem kLend_ok (r : R) : kLend (.ok r) = if flR r = true then .ok r else .st := rfl
@[simp] theorem kLend_ex (c : String) : kLend (.ex c) = .ex c := rfl
@[simp] theorem flR_bl (b : Bool) : flR (.cl (.bl b)) = true := by simp [flR, flatD]
@[simp] theorem flR_int (b : Int) : flR (.cl (.int b)) = true := by simp [flR, flatD]
@[simp] theorem flR_non : flR (.cl .non) = true := by simp [flR, flatD]
@[simp] theorem flatDs_ints : ∀ xs : List Int, flatDs (xs.map D.int) = true
  | [] => by simp [flatDs]
  | x :: r => by rw [List.map_cons, flatDs, flatDs_ints r]; simp [flatD]
@[simp] theorem flR_ints (xs : List Int) : flR (.ow (.lst (xs.map D.int))) = true := by simp [flR]
@[simp] theorem flR_intsT (xs : List Int) : flR (.cl (.tup (xs.map D.int))) = true := by simp [flR, flatD]
@[simp] theorem dBack_lst (l : List D) : dBack (.lst l) = .ok (.ow (.lst l.tail.reverse)) := rfl
/-! ### a changed list in a told tuple -/
theorem gFunL_of {n : Nat} {b : Stx} {ds : List D} {d : D} (h : flatDs ds = true) (e : outS (b (env0 n ds)) = .ok (.cl d)) : gFunL n b ds = .ok (.cl d) := by
  unfold gFunL
  rw [if_pos h]
  show noBo (outS (b (env0 n ds))) = _
  rw [e]
  rfl
theorem thaw_eq {i k : Nat} {c : Int} {env : Env} {ds es : List D} (h : env[i]? = some (.sh (.tup ds))) (hk : ds[k]? = some (.lst es)) (hf : (flatDs es && flatDs (ds.set k .non) && (env.set i .un).all flatO) = true) (hl : es.length < 16777216) : sThaw i k c env = .nx (env.set i (.sh (.tup (ds.set k (.lst (es ++ [.int c])))))) := by
  rcases thaw_nx i k c env with q | ⟨ds', es', e, ek, _, _, q⟩
  · unfold sThaw at q
    rw [h] at q
    simp only [] at q
    rw [hk] at q
    simp only [] at q
    rw [if_pos ⟨hf, hl⟩] at q
    cases q
  · rw [h] at e
    cases e
    rw [hk] at ek
    cases ek
    exact q
/-! ### dict(zip(..)), a < b < c < d, xs.pop(e) -/
def bDZ (o : Out (List D)) : Out R := match o with
  | .ok [a, b] => dDictZip a b
  | .ok _ => .st
  | .ex c => .ex c
  | .st => .st
@[simp] theorem q_dictZip (fs : List Sx) (env : Env) : eDictZip fs env = bDZ (evArgs fs env) := rfl
@[simp] theorem bDZ_ok (a b : D) : bDZ (.ok [a, b]) = dDictZip a b := rfl
@[simp] theorem q_chain3 (φ ψ χ : D → D → Out R) (f g h k : Sx) (env : Env) : eChain3 φ ψ χ f g h k env = bR (f env) fun a => bR (g env) fun b => bB (oB (φ a.d b.d)) fun t => if t then bR (h env) fun c => bB (oB (ψ b.d c.d)) fun u => if u then bR (k env) fun d => χ c.d d.d else .ok (.cl (.bl false)) else .ok (.cl (.bl false)) := by
  unfold eChain3
  cases f env with
  | ex c => rfl
  | st => rfl
  | ok a =>
    cases g env with
    | ex c => rfl
    | st => rfl
    | ok b =>
      rw [bR_ok, bR_ok]
      simp only []
      cases oB (φ a.d b.d) with
      | ex c => rfl
      | st => rfl
      | ok t =>
        cases t with
        | false => rfl
        | true =>
          rw [bB_ok]
          simp only [if_true]
          cases h env with
          | ex c => rfl
          | st => rfl
          | ok c =>
            rw [bR_ok]
            simp only []
            cases oB (ψ b.d c.d) with
            | ex c => rfl
            | st => rfl
            | ok u =>
              cases u with
              | false => rfl
              | true =>
                rw [bB_ok]
                simp only [if_true]
                cases k env <;> rfl
def bPp (j : Nat) (s : Option Slot) (o : Out R) (env : Env) : SO := match s with
  | some (.ow (.lst bs)) => (match o with
    | .ok r => (match r.d with
      | .int n => if 0 ≤ n ∧ n < bs.length ∧ bs.length ≤ 16777216 then .nx (env.set j (.ow (.lst (bs.eraseIdx n.toNat)))) else .st
      | _ => .st)
    | .ex c => .ex c env
    | .st => .st)
  | _ => .st
@[simp] theorem q_pop (j : Nat) (f : Sx) (env : Env) : sPop j f env = bPp j env[j]? (f env) env := rfl
theorem bPp_ok {j : Nat} {bs : List D} {n : Int} {env : Env} (h0 : 0 ≤ n) (h : n < bs.length) (hl : bs.length ≤ 16777216) : bPp j (some (.ow (.lst bs))) (.ok (.cl (.int n))) env = .nx (env.set j (.ow (.lst (bs.eraseIdx n.toNat)))) := if_pos ⟨h0, h, hl⟩
/-! ### dicts with tuples as keys -/
def bKT (i : Nat) (v : Out R) (s : Option Slot) (k : Out R) (env : Env) : SO := match v with
  | .ok (.bo _) => .st
  | .ok r => (match s with
    | some (.ow (.dtk ks ds)) => (match k with
      | .ok q => (match q.d with
        | .tup l => (match intsOf l with
          | some k => if ks.length < 16777216 then .nx (env.set i (.ow (.dtk (putKs ks k) (putVs ks ds k r.d)))) else .st
          | none => .st)
        | _ => .st)
      | .ex c => .ex c env
      | .st => .st)
    | _ => .st)
  | .ex c => .ex c env
  | .st => .st
@[simp] theorem q_setKT (i : Nat) (fi fv : Sx) (env : Env) : sSetKT i fi fv env = bKT i (fv env) env[i]? (fi env) env := rfl
theorem bKT_ok {i : Nat} {v : D} {ks : List (List Int)} {ds : List D} {k : List Int} {env : Env} (h : ks.length < 16777216) : bKT i (.ok (.cl v)) (some (.ow (.dtk ks ds))) (.ok (.cl (.tup (k.map D.int)))) env = .nx (env.set i (.ow (.dtk (putKs ks k) (putVs ks ds k v)))) := by
  show (match intsOf (k.map D.int) with | some k => if ks.length < 16777216 then SO.nx (env.set i (.ow (.dtk (putKs ks k) (putVs ks ds k v)))) else .st | none => .st) = _
  rw [intsOf_map]
  exact if_pos h
@[simp] theorem dInX_ok (k : List Int) (ks : List (List Int)) (ds : List D) : dInX (.tup (k.map D.int)) (.dtk ks ds) = .ok (.cl (.bl (decide (k ∈ ks)))) := by
  show (match intsOf (k.map D.int) with | some k => cB (decide (k ∈ ks)) | none => .st) = _
  rw [intsOf_map]
  rfl
def bGX (f g k : Out R) : Out R := match f with
  | .ok r => (match r.d with
    | .dtk ks ds => (match g with
      | .ok q => (match q.d with
        | .tup l => (match k with
          | .ok (.cl z) => (match intsOf l with
            | some n => if n ∈ ks then oO ds[ks.idxOf n]? else .ok (.cl z)
            | none => .st)
          | _ => .st)
        | _ => .st)
      | .ex c => .ex c
      | .st => .st)
    | _ => .st)
  | .ex c => .ex c
  | .st => .st
@[simp] theorem q_getX (f g k : Sx) (env : Env) : eGetX f g k env = bGX (f env) (g env) (k env) := rfl
theorem bGX_bo (ks : List (List Int)) (ds : List D) (n : List Int) (z : D) : bGX (.ok (.bo (.dtk ks ds))) (.ok (.cl (.tup (n.map D.int)))) (.ok (.cl z)) = if n ∈ ks then oO ds[ks.idxOf n]? else .ok (.cl z) := by
  show (match intsOf (n.map D.int) with | some n => if n ∈ ks then oO ds[ks.idxOf n]? else Out.ok (R.cl z) | none => .st) = _
  rw [intsOf_map]
theorem dIxX_ok (ks : List (List Int)) (ds : List D) (n : List Int) : dIxX (.dtk ks ds) (.tup (n.map D.int)) = if n ∈ ks then oO ds[ks.idxOf n]? else .st := by
  show (match intsOf (n.map D.int) with | some n => if n ∈ ks then oO ds[ks.idxOf n]? else .st | none => .st) = _
  rw [intsOf_map]
def bTk (o : Out R) : Out (Bool × List D) := match o with
  | .ok (.cl (.dtk ks _)) => if ks.length ≤ 16777216 then .ok (true, ks.map fun k => D.tup (k.map D.int)) else .st
  | .ok _ => .st
  | .ex c => .ex c
  | .st => .st
@[simp] theorem q_iTk (f : Sx) (env : Env) : iTk f env = bTk (f env) := rfl
@[simp] theorem bTk_ok (ks : List (List Int)) (ds : List D) : bTk (.ok (.cl (.dtk ks ds))) = if ks.length ≤ 16777216 then .ok (true, ks.map fun k => D.tup (k.map D.int)) else .st := rfl
end Fs

set_option maxHeartbeats 1000000
namespace Fs
open PySem PySem.Spec L2

/-! ### laws of the operations -/
@[simp] theorem slot_get0 (s : Slot) (l : List Slot) : (s :: l)[0]? = some s := rfl
@[simp] theorem slot_gets (s : Slot) (l : List Slot) (n : Nat) : (s :: l)[n + 1]? = l[n]? := rfl
@[simp] theorem d_get0 (s : D) (l : List D) : (s :: l)[0]? = some s := rfl
@[simp] theorem d_gets (s : D) (l : List D) (n : Nat) : (s :: l)[n + 1]? = l[n]? := rfl
@[simp] theorem gFun_eq (n : Nat) (b : Stx) (ds : List D) : gFun n b ds = outS (b (env0 n ds)) := rfl
@[simp] theorem env0_eq (n : Nat) (ds : List D) : env0 n ds = ds.map .sh ++ List.replicate (n - ds.length) .un := rfl
@[simp] theorem cB_eq (b : Bool) : cB b = .ok (.cl (.bl b)) := rfl
@[simp] theorem cI_eq (i : Int) : cI i = .ok (.cl (.int i)) := rfl
@[simp] theorem cD_eq (d : D) : cD d = .ok (.cl d) := rfl
@[simp] theorem oD_eq (d : D) : oD d = .ok (.ow d) := rfl
@[simp] theorem dAdd_int (a b : Int) : dAdd (.int a) (.int b) = .ok (.cl (.int (a + b))) := rfl
@[simp] theorem dSub_int (a b : Int) : dSub (.int a) (.int b) = .ok (.cl (.int (a - b))) := rfl
@[simp] theorem dNeg_int (a : Int) : dNeg (.int a) = .ok (.cl (.int (-a))) := rfl
@[simp] theorem dMul_int (a b : Int) : dMul (.int a) (.int b) = if mulOk a b then .ok (.cl (.int (a * b))) else .st := rfl
theorem mulOk_l {a b : Int} (h : -18446744073709551616 < a) (h2 : a < 18446744073709551616) : mulOk a b = true := by
  unfold mulOk
  have : a.natAbs < 2 ^ 64 := by omega
  simp [this]
theorem mulOk_r {a b : Int} (h : -18446744073709551616 < b) (h2 : b < 18446744073709551616) : mulOk a b = true := by
  unfold mulOk
  have : b.natAbs < 2 ^ 64 := by omega
  simp [this]
theorem log2_of {n k : Nat} (h : n < 2 ^ k) (hk : 0 < k) : n.log2 < k := by
  by_cases e : n = 0
  · subst e; simpa using hk
  · exact (Nat.log2_lt e).mpr h
theorem mulOk_w {a b : Int} (h : a.natAbs < 2 ^ 4000) (h2 : b.natAbs < 2 ^ 4000) : mulOk a b = true := by
  unfold mulOk
  have h3 := log2_of h (by decide)
  have h4 := log2_of h2 (by decide)
  have : a.natAbs.log2 + b.natAbs.log2 < 1000000 := by omega
  simp [this]
theorem dDiv_pos {a b : Int} (h : 0 < b) (h2 : b < 18446744073709551616) : dDiv (.int a) (.int b) = .ok (.cl (.int (a / b))) := by
  have c : b ≠ 0 ∧ b.natAbs.log2 < 9000 := ⟨by omega, by
    have := log2_of (n := b.natAbs) (k := 64) (by omega) (by decide)
    omega⟩
  show (if b ≠ 0 ∧ b.natAbs.log2 < 9000 then cI (a.fdiv b) else .st) = _
  rw [if_pos c, Int.fdiv_eq_ediv_of_nonneg _ (by omega)]
  rfl
theorem dMod_pos {a b : Int} (h : 0 < b) : dMod (.int a) (.int b) = .ok (.cl (.int (a % b))) := by
  show (if b ≠ 0 then cI (a.fmod b) else .st) = _
  rw [if_pos (by omega), Int.fmod_eq_emod_of_nonneg _ (by omega)]
  rfl
@[simp] theorem dDiv_lit (a : Int) (n : Nat) [NeZero n] (h : (OfNat.ofNat n : Int) < 18446744073709551616 := by decide) (h0 : (0:Int) < OfNat.ofNat n := by decide) : dDiv (.int a) (.int (OfNat.ofNat n)) = .ok (.cl (.int (a / OfNat.ofNat n))) := dDiv_pos h0 h
@[simp] theorem dPow_int (a b : Int) : dPow (.int a) (.int b) = if 0 ≤ b ∧ b ≤ 1000000 ∧ a.natAbs < 2 ^ 64 then .ok (.cl (.int (a ^ b.toNat))) else .st := rfl
@[simp] theorem dShl_int (a b : Int) : dShl (.int a) (.int b) = if 0 ≤ b ∧ b ≤ 1000000 ∧ a.natAbs < 2 ^ 64 then .ok (.cl (.int (a * 2 ^ b.toNat))) else .st := rfl
@[simp] theorem dShr_int (a b : Int) : dShr (.int a) (.int b) = if 0 ≤ b then .ok (.cl (.int (a / 2 ^ b.toNat))) else .st := rfl
@[simp] theorem dCmp_int (p : Int → Int → Bool) (a b : Int) : dCmp p (.int a) (.int b) = .ok (.cl (.bl (p a b))) := rfl
@[simp] theorem dAbs_int (i : Int) : dAbs (.int i) = .ok (.cl (.int (if i < 0 then -i else i))) := rfl
@[simp] theorem dToInt_int (i : Int) : dToInt (.int i) = .ok (.cl (.int i)) := rfl
@[simp] theorem dToInt_bl (b : Bool) : dToInt (.bl b) = .ok (.cl (.int (if b then 1 else 0))) := rfl
@[simp] theorem dMax2_int (i j : Int) : dMax2 (.int i) (.int j) = .ok (.cl (.int (if j > i then j else i))) := rfl
@[simp] theorem dIsa_eq (T : String) (d : D) : dIsa T d = .ok (.cl (.bl (isaB T d))) := rfl
/-- kinds -/
@[simp] theorem isa_int_int (i : Int) : isaB "int" (.int i) = true := (show isaT "int" "int" = true by decide)
@[simp] theorem isa_int_bl (i : Bool) : isaB "int" (.bl i) = true := (show isaT "int" "bool" = true by decide)
@[simp] theorem isa_int_str (i : Str) : isaB "int" (.str i) = false := (show isaT "int" "str" = false by decide)
@[simp] theorem isa_int_tup (l : List D) : isaB "int" (.tup l) = false := (show isaT "int" "tuple" = false by decide)
@[simp] theorem isa_int_lst (l : List D) : isaB "int" (.lst l) = false := (show isaT "int" "list" = false by decide)
@[simp] theorem isa_int_dcz (l : List (Key × D)) : isaB "int" (.dcz l) = false := (show isaT "int" "dict" = false by decide)
@[simp] theorem isa_int_dct (l : List (Key × D)) : isaB "int" (.dct l) = false := (show isaT "int" "dict" = false by decide)
@[simp] theorem isa_int_non  : isaB "int" .non = false := (show isaT "int" "NoneType" = false by decide)
@[simp] theorem isa_int_scr (l : List Int) : isaB "int" (.scr l) = false := (show isaT "int" "list" = false by decide)
@[simp] theorem isa_bool_int (i : Int) : isaB "bool" (.int i) = false := (show isaT "bool" "int" = false by decide)
@[simp] theorem isa_bool_bl (i : Bool) : isaB "bool" (.bl i) = true := (show isaT "bool" "bool" = true by decide)
@[simp] theorem isa_bool_str (i : Str) : isaB "bool" (.str i) = false := (show isaT "bool" "str" = false by decide)
@[simp] theorem isa_bool_tup (l : List D) : isaB "bool" (.tup l) = false := (show isaT "bool" "tuple" = false by decide)
@[simp] theorem isa_bool_lst (l : List D) : isaB "bool" (.lst l) = false := (show isaT "bool" "list" = false by decide)
@[simp] theorem isa_bool_dcz (l : List (Key × D)) : isaB "bool" (.dcz l) = false := (show isaT "bool" "dict" = false by decide)
@[simp] theorem isa_bool_dct (l : List (Key × D)) : isaB "bool" (.dct l) = false := (show isaT "bool" "dict" = false by decide)
@[simp] theorem isa_bool_non  : isaB "bool" .non = false := (show isaT "bool" "NoneType" = false by decide)
@[simp] theorem isa_bool_scr (l : List Int) : isaB "bool" (.scr l) = false := (show isaT "bool" "list" = false by decide)
@[simp] theorem isa_tuple_int (i : Int) : isaB "tuple" (.int i) = false := (show isaT "tuple" "int" = false by decide)
@[simp] theorem isa_tuple_bl (i : Bool) : isaB "tuple" (.bl i) = false := (show isaT "tuple" "bool" = false by decide)
@[simp] theorem isa_tuple_str (i : Str) : isaB "tuple" (.str i) = false := (show isaT "tuple" "str" = false by decide)
@[simp] theorem isa_tuple_tup (l : List D) : isaB "tuple" (.tup l) = true := (show isaT "tuple" "tuple" = true by decide)
@[simp] theorem isa_tuple_lst (l : List D) : isaB "tuple" (.lst l) = false := (show isaT "tuple" "list" = false by decide)
@[simp] theorem isa_tuple_dcz (l : List (Key × D)) : isaB "tuple" (.dcz l) = false := (show isaT "tuple" "dict" = false by decide)
@[simp] theorem isa_tuple_dct (l : List (Key × D)) : isaB "tuple" (.dct l) = false := (show isaT "tuple" "dict" = false by decide)
@[simp] theorem isa_tuple_non  : isaB "tuple" .non = false := (show isaT "tuple" "NoneType" = false by decide)
@[simp] theorem isa_tuple_scr (l : List Int) : isaB "tuple" (.scr l) = false := (show isaT "tuple" "list" = false by decide)
@[simp] theorem isa_list_int (i : Int) : isaB "list" (.int i) = false := (show isaT "list" "int" = false by decide)
@[simp] theorem isa_list_bl (i : Bool) : isaB "list" (.bl i) = false := (show isaT "list" "bool" = false by decide)
@[simp] theorem isa_list_str (i : Str) : isaB "list" (.str i) = false := (show isaT "list" "str" = false by decide)
@[simp] theorem isa_list_tup (l : List D) : isaB "list" (.tup l) = false := (show isaT "list" "tuple" = false by decide)
@[simp] theorem isa_list_lst (l : List D) : isaB "list" (.lst l) = true := (show isaT "list" "list" = true by decide)
@[simp] theorem isa_list_dcz (l : List (Key × D)) : isaB "list" (.dcz l) = false := (show isaT "list" "dict" = false by decide)
@[simp] theorem isa_list_dct (l : List (Key × D)) : isaB "list" (.dct l) = false := (show isaT "list" "dict" = false by decide)
@[simp] theorem isa_list_non  : isaB "list" .non = false := (show isaT "list" "NoneType" = false by decide)
@[simp] theorem isa_list_scr (l : List Int) : isaB "list" (.scr l) = true := (show isaT "list" "list" = true by decide)
@[simp] theorem isa_str_int (i : Int) : isaB "str" (.int i) = false := (show isaT "str" "int" = false by decide)
@[simp] theorem isa_str_bl (i : Bool) : isaB "str" (.bl i) = false := (show isaT "str" "bool" = false by decide)
@[simp] theorem isa_str_str (i : Str) : isaB "str" (.str i) = true := (show isaT "str" "str" = true by decide)
@[simp] theorem isa_str_tup (l : List D) : isaB "str" (.tup l) = false := (show isaT "str" "tuple" = false by decide)
@[simp] theorem isa_str_lst (l : List D) : isaB "str" (.lst l) = false := (show isaT "str" "list" = false by decide)
@[simp] theorem isa_str_dcz (l : List (Key × D)) : isaB "str" (.dcz l) = false := (show isaT "str" "dict" = false by decide)
@[simp] theorem isa_str_dct (l : List (Key × D)) : isaB "str" (.dct l) = false := (show isaT "str" "dict" = false by decide)
@[simp] theorem isa_str_non  : isaB "str" .non = false := (show isaT "str" "NoneType" = false by decide)
@[simp] theorem isa_str_scr (l : List Int) : isaB "str" (.scr l) = false := (show isaT "str" "list" = false by decide)
@[simp] theorem isa_dict_int (i : Int) : isaB "dict" (.int i) = false := (show isaT "dict" "int" = false by decide)
@[simp] theorem isa_dict_bl (i : Bool) : isaB "dict" (.bl i) = false := (show isaT "dict" "bool" = false by decide)
@[simp] theorem isa_dict_str (i : Str) : isaB "dict" (.str i) = false := (show isaT "dict" "str" = false by decide)
@[simp] theorem isa_dict_tup (l : List D) : isaB "dict" (.tup l) = false := (show isaT "dict" "tuple" = false by decide)
@[simp] theorem isa_dict_lst (l : List D) : isaB "dict" (.lst l) = false := (show isaT "dict" "list" = false by decide)
@[simp] theorem isa_dict_dcz (l : List (Key × D)) : isaB "dict" (.dcz l) = true := (show isaT "dict" "dict" = true by decide)
@[simp] theorem isa_dict_dct (l : List (Key × D)) : isaB "dict" (.dct l) = true := (show isaT "dict" "dict" = true by decide)
@[simp] theorem isa_dict_non  : isaB "dict" .non = false := (show isaT "dict" "NoneType" = false by decide)
@[simp] theorem isa_dict_scr (l : List Int) : isaB "dict" (.scr l) = false := (show isaT "dict" "list" = false by decide)
@[simp] theorem isa_int_dtk (ks : List (List Int)) (l : List D) : isaB "int" (.dtk ks l) = false := (show isaT "int" "dict" = false by decide)
@[simp] theorem isa_bool_dtk (ks : List (List Int)) (l : List D) : isaB "bool" (.dtk ks l) = false := (show isaT "bool" "dict" = false by decide)
@[simp] theorem isa_tuple_dtk (ks : List (List Int)) (l : List D) : isaB "tuple" (.dtk ks l) = false := (show isaT "tuple" "dict" = false by decide)
@[simp] theorem isa_list_dtk (ks : List (List Int)) (l : List D) : isaB "list" (.dtk ks l) = false := (show isaT "list" "dict" = false by decide)
@[simp] theorem isa_str_dtk (ks : List (List Int)) (l : List D) : isaB "str" (.dtk ks l) = false := (show isaT "str" "dict" = false by decide)
@[simp] theorem isa_dict_dtk (ks : List (List Int)) (l : List D) : isaB "dict" (.dtk ks l) = true := (show isaT "dict" "dict" = true by decide)
/-- lengths -/
@[simp] theorem dLen_lst (l : List D) : dLen (.lst l) = .ok (.cl (.int l.length)) := rfl
@[simp] theorem dLen_tup (l : List D) : dLen (.tup l) = .ok (.cl (.int l.length)) := rfl
@[simp] theorem dLen_dct (l : List (Key × D)) : dLen (.dct l) = .ok (.cl (.int l.length)) := rfl
@[simp] theorem dLen_scr (l : List Int) : dLen (.scr l) = .ok (.cl (.int l.length)) := rfl
@[simp] theorem dTuple_lst (l : List D) : dTuple (.lst l) = .ok (.cl (.tup l)) := rfl
@[simp] theorem dTuple_tup (l : List D) : dTuple (.tup l) = .ok (.cl (.tup l)) := rfl
@[simp] theorem dTuple_scr (l : List Int) : dTuple (.scr l) = .ok (.cl (.tup (l.map D.int))) := rfl
@[simp] theorem dList_lst (l : List D) : dList (.lst l) = .ok (.ow (.lst l)) := rfl
@[simp] theorem dList_tup (l : List D) : dList (.tup l) = .ok (.ow (.lst l)) := rfl
@[simp] theorem dList_scr (l : List Int) : dList (.scr l) = .ok (.ow (.lst (l.map D.int))) := rfl
theorem blsOf_maps {β : Type} (p : β → Bool) (xs : List β) : blsOf (xs.map fun x => D.bl (p x)) = some (xs.map p) := by
  induction xs with
  | nil => rfl
  | cons x xs ih => show (blsOf (xs.map fun x => D.bl (p x))).map (p x :: ·) = _; rw [ih]; rfl
theorem intsOf_maps {β : Type} (p : β → Int) (xs : List β) : intsOf (xs.map fun x => D.int (p x)) = some (xs.map p) := by
  induction xs with
  | nil => rfl
  | cons x xs ih => show (intsOf (xs.map fun x => D.int (p x))).map (p x :: ·) = _; rw [ih]; rfl
theorem intsOf_ints (xs : List Int) : intsOf (xs.map D.int) = some xs := by
  have := intsOf_maps (fun x : Int => x) xs
  rwa [List.map_id'] at this
@[simp] theorem dAll_map {β : Type} (p : β → Bool) (xs : List β) : dAll (.lst (xs.map fun x => D.bl (p x))) = .ok (.cl (.bl (xs.all p))) := by
  unfold dAll
  simp [blsOf_maps, List.all_map]
@[simp] theorem dAny_map {β : Type} (p : β → Bool) (xs : List β) : dAny (.lst (xs.map fun x => D.bl (p x))) = .ok (.cl (.bl (xs.any p))) := by
  unfold dAny
  simp [blsOf_maps, List.any_map]
@[simp] theorem dSum_map {β : Type} (p : β → Int) (xs : List β) : dSum (.lst (xs.map fun x => D.int (p x))) = .ok (.cl (.int (xs.map p).sum)) := by
  unfold dSum
  simp [intsOf_maps]
@[simp] theorem dSum_ints (xs : List Int) : dSum (.lst (xs.map D.int)) = .ok (.cl (.int xs.sum)) := by
  have := dSum_map (fun x : Int => x) xs
  rwa [List.map_id'] at this
@[simp] theorem all_tt {β : Type} (xs : List β) : (xs.all fun _ => true) = true := by simp
@[simp] theorem any_ff {β : Type} (xs : List β) : (xs.any fun _ => false) = false := by simp
/-- places -/
theorem atI_nat {α : Type} {xs : List α} {i : Nat} (h : i < xs.length) : atI xs (i : Int) = xs[i]? := by
  unfold atI ixN
  rw [if_pos (by omega), if_pos (by omega), Int.toNat_natCast]
  rfl
theorem atI_pos {α : Type} {xs : List α} {i : Int} (h0 : 0 ≤ i) (h : i < xs.length) : atI xs i = xs[i.toNat]? := by
  unfold atI ixN
  rw [if_pos h0, if_pos h]
  rfl
theorem atI_neg {α : Type} {xs : List α} {i : Int} (h0 : i < 0) (h : -(xs.length : Int) ≤ i) : atI xs i = xs[(i + xs.length).toNat]? := by
  unfold atI ixN
  rw [if_neg (by omega), if_pos h]
  rfl
@[simp] theorem dIx_lst (l : List D) (i : Int) : dIx (.lst l) (.int i) = oO (atI l i) := rfl
@[simp] theorem dIx_tup (l : List D) (i : Int) : dIx (.tup l) (.int i) = oO (atI l i) := rfl
@[simp] theorem dIx_scr (l : List Int) (i : Int) : dIx (.scr l) (.int i) = oO ((atI l i).map D.int) := rfl
theorem atI_mem {α : Type} {xs : List α} {i : Int} (h0 : 0 ≤ i) (h : i < xs.length) : ∃ v, v ∈ xs ∧ atI xs i = some v := by
  rw [atI_pos h0 h]
  have : i.toNat < xs.length := by omega
  exact ⟨xs[i.toNat], List.getElem_mem _, List.getElem?_eq_getElem this⟩
theorem atI_ints {xs : List Int} {i : Int} (h0 : 0 ≤ i) (h : i < xs.length) : atI (xs.map D.int) i = some (.int (xs.getD i.toNat 0)) := by
  rw [atI_pos h0 (by simpa using h), List.getElem?_map, List.getD_eq_getElem?_getD, List.getElem?_eq_getElem (by omega)]
  rfl
theorem up_adj {xs : List Int} : xs.Pairwise (· < ·) ↔ ∀ i, i + 1 < xs.length → xs.getD i 0 < xs.getD (i + 1) 0 := by
  induction xs with
  | nil => simp
  | cons x xs ih =>
    rw [List.pairwise_cons, ih]
    constructor
    · rintro ⟨h1, h2⟩ i hi
      cases i with
      | zero =>
        cases xs with
        | nil => simp at hi
        | cons y ys => exact h1 y List.mem_cons_self
      | succ i => exact h2 i (by simpa using hi)
    · intro h
      refine ⟨fun y hy => ?_, fun i hi => h (i + 1) (by simpa using hi)⟩
      obtain ⟨n, hn, rfl⟩ := List.getElem_of_mem hy
      have key : ∀ n (hn : n < xs.length), x < xs.getD n 0 := by
        intro n
        induction n with
        | zero => intro hn; exact h 0 (by simpa using hn)
        | succ n ihn =>
          intro hn
          have h1 := ihn (by omega)
          have h2 := h (n + 1) (by simpa using hn)
          simp only [List.getD_cons_succ] at h2
          omega
      have := key n hn
      rwa [List.getD_eq_getElem?_getD, List.getElem?_eq_getElem hn] at this
@[simp] theorem oO_sm (d : D) : oO (some d) = .ok (.cl d) := rfl
theorem cut_take {α : Type} (xs : List α) {k : Int} (h : 0 ≤ k) : cutD xs none (some k) = xs.take k.toNat := by
  unfold cutD HT.sIx
  simp only []
  rw [if_neg (by omega)]
  simp only [List.drop_zero, Nat.sub_zero]
  by_cases c : k.toNat ≤ xs.length
  · rw [Nat.min_eq_left c]
  · rw [Nat.min_eq_right (by omega), List.take_of_length_le (Nat.le_refl _), List.take_of_length_le (by omega)]
@[simp] theorem dCut_scr (ns : List Int) (lo hi : Option Int) : dCut (.scr ns) lo hi = .ok (.ow (.lst ((cutD ns lo hi).map D.int))) := rfl
@[simp] theorem dCut_lst (ns : List D) (lo hi : Option Int) : dCut (.lst ns) lo hi = .ok (.ow (.lst (cutD ns lo hi))) := rfl
@[simp] theorem dCut_tup (ns : List D) (lo hi : Option Int) : dCut (.tup ns) lo hi = .ok (.cl (.tup (cutD ns lo hi))) := rfl
theorem cut_map {α β : Type} (f : α → β) (xs : List α) (lo hi : Option Int) : cutD (xs.map f) lo hi = (cutD xs lo hi).map f := by
  unfold cutD
  simp
theorem dAdd_lst {a b : List D} (h : a.length + b.length ≤ 16777216) : dAdd (.lst a) (.lst b) = .ok (.ow (.lst (a ++ b))) := if_pos h
theorem dAdd_tup {a b : List D} (h : a.length + b.length ≤ 16777216) : dAdd (.tup a) (.tup b) = .ok (.cl (.tup (a ++ b))) := if_pos h
theorem dAdd_lstI {a b : List Int} (h : a.length + b.length ≤ 16777216) : dAdd (.lst (a.map D.int)) (.lst (b.map D.int)) = .ok (.ow (.lst ((a ++ b).map D.int))) := by
  rw [dAdd_lst (by simpa using h), List.map_append]
theorem dAdd_tupI {a b : List Int} (h : a.length + b.length ≤ 16777216) : dAdd (.tup (a.map D.int)) (.tup (b.map D.int)) = .ok (.cl (.tup ((a ++ b).map D.int))) := by
  rw [dAdd_tup (by simpa using h), List.map_append]
theorem take_mapD (n : Nat) (xs : List Int) : (xs.map D.int).take n = (xs.take n).map D.int := by simp
theorem drop_mapD (n : Nat) (xs : List Int) : (xs.map D.int).drop n = (xs.drop n).map D.int := by simp
theorem rev_mapD (xs : List Int) : (xs.map D.int).reverse = (xs.reverse).map D.int := by simp
/-- the cells of a law's round -/
theorem cells2 {ns : List Int} {k a b : Int} (hk : 0 ≤ k) (hl : ns.length ≤ 63) : dAdd (.lst ((cutD ns none (some k)).map D.int)) (.lst [.int a, .int b]) = .ok (.ow (.lst ((ns.take k.toNat ++ [a, b]).map D.int))) := by
  rw [cut_take _ hk]
  exact dAdd_lstI (b := [a, b]) (by simp; omega)
theorem cells1 {ns : List Int} {k a : Int} (hk : 0 ≤ k) (hl : ns.length ≤ 63) : dAdd (.lst ((cutD ns none (some k)).map D.int)) (.lst [.int a]) = .ok (.ow (.lst ((ns.take k.toNat ++ [a]).map D.int))) := by
  rw [cut_take _ hk]
  exact dAdd_lstI (b := [a]) (by simp; omega)
theorem cut_drop {α : Type} (xs : List α) {k : Int} (h : 0 ≤ k) : cutD xs (some k) none = xs.drop k.toNat := by
  unfold cutD HT.sIx
  simp only []
  rw [if_neg (by omega)]
  by_cases c : k.toNat ≤ xs.length
  · rw [Nat.min_eq_left c, List.take_of_length_le (by simp)]
  · rw [Nat.min_eq_right (by omega), List.drop_of_length_le (by omega), List.drop_of_length_le (by omega)]
    simp
theorem cut_last {α : Type} (xs : List α) {k : Int} (h : k < 0) : cutD xs (some k) none = xs.drop (k + xs.length).toNat := by
  unfold cutD HT.sIx
  simp only []
  rw [if_pos h, List.take_of_length_le (by simp)]
theorem cut_len {α : Type} (xs : List α) (lo hi : Option Int) : (cutD xs lo hi).length ≤ xs.length := by
  unfold cutD
  rw [List.length_take, List.length_drop]
  omega
/-- whole numbers -/
def isI : D → Bool
  | .int _ => true
  | _ => false
@[simp] theorem isI_int (i : Int) : isI (.int i) = true := rfl
theorem all_isI : ∀ {ds : List D}, ds.all isI = true → ∃ xs : List Int, ds = xs.map D.int
  | [], _ => ⟨[], rfl⟩
  | d :: ds, h => by
    rw [List.all_cons, Bool.and_eq_true] at h
    obtain ⟨xs, e⟩ := all_isI h.2
    cases d <;> first | (cases h.1; done) | skip
    exact ⟨_ :: xs, by rw [e]; rfl⟩
theorem not_isI : ∀ {ds : List D}, ds.all isI = false → intsOf ds = none
  | [], h => by cases h
  | d :: ds, h => by
    cases d <;> first | rfl | skip
    rw [List.all_cons, isI_int, Bool.true_and] at h
    show (intsOf ds).map _ = none
    rw [not_isI h]; rfl
theorem isI_ints (xs : List Int) : (xs.map D.int).all isI = true := by
  rw [List.all_map]; simp
@[simp] theorem isI_comp (xs : List Int) : xs.all (isI ∘ D.int) = true := by simp
/-- what a set is -/
def isSetB : D → Bool
  | .tup ds => match intsOf ds with
    | some xs => decide (xs.Pairwise (· < ·))
    | none => false
  | _ => false
/-- equality -/
theorem toPys_ints (xs : List Int) : toPys (xs.map D.int) = some (xs.map PyData.int) := by
  induction xs with
  | nil => rfl
  | cons x xs ih => simp [toPys, toPy, ih]
theorem eqvAll_ints : ∀ xs ys : List Int, PyData.eqvAll (xs.map PyData.int) (ys.map PyData.int) = decide (xs = ys)
  | [], [] => by simp [PyData.eqvAll]
  | [], _ :: _ => by simp [PyData.eqvAll]
  | _ :: _, [] => by simp [PyData.eqvAll]
  | x :: xs, y :: ys => by
    simp only [List.map_cons, PyData.eqvAll, PyData.eqv, eqvAll_ints xs ys]
    by_cases h : x = y <;> by_cases h2 : xs = ys <;> simp [h, h2]
theorem canLay_ints (xs : List Int) : PyData.canLayAll0 (xs.map PyData.int) = true := by
  induction xs with
  | nil => rfl
  | cons x xs ih => simp [PyData.canLayAll0, PyData.canLay0, ih]
theorem depth_ints (xs : List Int) : PyData.depthAll (xs.map PyData.int) = 0 := by
  induction xs with
  | nil => rfl
  | cons x xs ih => simp [PyData.depthAll, PyData.depth, ih]
@[simp] theorem pyOk_ints (xs : List Int) : pyOk (.tup (xs.map D.int)) = true := by
  simp [pyOk, toPy, toPys_ints, SeqAt.shaped, PyData.canLay0, PyData.depth, canLay_ints, depth_ints]
@[simp] theorem pyOk_intsL (xs : List Int) : pyOk (.lst (xs.map D.int)) = true := by
  simp [pyOk, toPy, toPys_ints, SeqAt.shaped, PyData.canLay0, PyData.depth, canLay_ints, depth_ints]
@[simp] theorem pyOk_int (x : Int) : pyOk (.int x) = true := by rfl
@[simp] theorem pyOk_bl (x : Bool) : pyOk (.bl x) = true := by rfl
theorem pyOk_str {x : Str} (h : PyData.strOk x = true) : pyOk (.str x) = true := by simp [pyOk, toPy, SeqAt.shaped, PyData.canLay0, PyData.depth, h]
@[simp] theorem pyOk_non : pyOk .non = true := by rfl
@[simp] theorem deq_int (a b : Int) : deq (.int a) (.int b) = decide (a = b) := by
  simp [deq, toPy, PyData.eqv]; rfl
@[simp] theorem deq_ints (a b : List Int) : deq (.tup (a.map D.int)) (.tup (b.map D.int)) = decide (a = b) := by
  simp [deq, toPy, toPys_ints, PyData.eqv, eqvAll_ints]
@[simp] theorem deq_intsL (a b : List Int) : deq (.lst (a.map D.int)) (.lst (b.map D.int)) = decide (a = b) := by
  simp [deq, toPy, toPys_ints, PyData.eqv, eqvAll_ints]
@[simp] theorem dEq_int (a b : Int) : dEq (.int a) (.int b) = .ok (.cl (.bl (decide (a = b)))) := by simp [dEq]
@[simp] theorem dNe_int (a b : Int) : dNe (.int a) (.int b) = .ok (.cl (.bl (!decide (a = b)))) := by simp [dNe]
@[simp] theorem dEq_ints (a b : List Int) : dEq (.tup (a.map D.int)) (.tup (b.map D.int)) = .ok (.cl (.bl (decide (a = b)))) := by simp [dEq]
@[simp] theorem dNe_ints (a b : List Int) : dNe (.tup (a.map D.int)) (.tup (b.map D.int)) = .ok (.cl (.bl (!decide (a = b)))) := by simp [dNe]
@[simp] theorem dEq_intsL (a b : List Int) : dEq (.lst (a.map D.int)) (.lst (b.map D.int)) = .ok (.cl (.bl (decide (a = b)))) := by simp [dEq]
@[simp] theorem dNe_intsL (a b : List Int) : dNe (.lst (a.map D.int)) (.lst (b.map D.int)) = .ok (.cl (.bl (!decide (a = b)))) := by simp [dNe]
@[simp] theorem dIs_bl (a b : Bool) : dIs (.bl a) (.bl b) = .ok (.cl (.bl (decide (a = b)))) := rfl
@[simp] theorem dIsNot_bl (a b : Bool) : dIsNot (.bl a) (.bl b) = .ok (.cl (.bl (!decide (a = b)))) := rfl
@[simp] theorem dIs_non (a : D) : dIs a .non = .ok (.cl (.bl (isN a))) := by cases a <;> rfl
@[simp] theorem dIsNot_non (a : D) : dIsNot a .non = .ok (.cl (.bl (!isN a))) := by cases a <;> rfl
@[simp] theorem isN_non : isN .non = true := rfl
@[simp] theorem isN_int (i : Int) : isN (.int i) = false := rfl
@[simp] theorem isN_bl (i : Bool) : isN (.bl i) = false := rfl
@[simp] theorem isN_str (i : PySem.Str) : isN (.str i) = false := rfl
@[simp] theorem isN_tup (l : List D) : isN (.tup l) = false := rfl
@[simp] theorem isN_lst (l : List D) : isN (.lst l) = false := rfl
@[simp] theorem deq_bl (a b : Bool) : deq (.bl a) (.bl b) = decide (a = b) := by
  simp [deq, toPy, PyData.eqv]; cases a <;> cases b <;> rfl
@[simp] theorem dEq_bl (a b : Bool) : dEq (.bl a) (.bl b) = .ok (.cl (.bl (decide (a = b)))) := by simp [dEq]
@[simp] theorem dNe_bl (a b : Bool) : dNe (.bl a) (.bl b) = .ok (.cl (.bl (!decide (a = b)))) := by simp [dNe]
@[simp] theorem q_eA (φ : List D → Out R) (fs : List Sx) (env : Env) : eA φ fs env = mapO φ (evArgs fs env) := rfl
theorem dTupRg_eq {ds : List D} {i j c : Int} (h : rgOf ds = some (i, j, c)) (k : okRg i j c = true) : dTupRg ds = .ok (.cl (.tup ((rangeC i j c).map D.int))) := by
  unfold dTupRg; rw [h]; simp only []; rw [k]; rfl
theorem dLstRg_eq {ds : List D} {i j c : Int} (h : rgOf ds = some (i, j, c)) (k : okRg i j c = true) : dLstRg ds = .ok (.ow (.lst ((rangeC i j c).map D.int))) := by
  unfold dLstRg; rw [h]; simp only []; rw [k]; rfl
theorem size_pos {i j c : Int} (hc : 0 < c) : PySem.Builtin.Range.rangeSize i j c = if i < j then (j - i - 1) / c + 1 else 0 := by
  unfold PySem.Builtin.Range.rangeSize
  rw [if_pos (by omega)]
theorem size_le {i j c : Int} (hc : 0 < c) : (PySem.Builtin.Range.rangeSize i j c).toNat ≤ (j - i).toNat := by
  rw [size_pos hc]
  split
  · have : (j - i - 1) / c ≤ j - i - 1 := Int.ediv_le_self _ (by omega)
    omega
  · omega
theorem okRg_pos {i j c : Int} (hc : 0 < c) (hc2 : c ≤ 1000000) (h1 : -8000000 ≤ i) (h2 : i ≤ 8000000) (h3 : -8000000 ≤ j) (h4 : j ≤ 8000000) : okRg i j c = true := by
  unfold okRg
  have hs := size_le (i := i) (j := j) hc
  have h5 : decide (c ≠ 0) = true := decide_eq_true (by omega)
  have h6 : decide (c.natAbs < 1073741824) = true := decide_eq_true (by omega)
  have h7 : decide ((PySem.Builtin.Range.rangeSize i j c).toNat ≤ 16777216) = true := decide_eq_true (by omega)
  have h8 : PySem.Builtin.Range.small i j c = true := by
    have hp := size_pos (i := i) (j := j) hc
    have hd : i < j → (j - i - 1) / c ≤ j - i - 1 := fun h => Int.ediv_le_self _ (by omega)
    have hd2 : i < j → 0 ≤ (j - i - 1) / c := fun h => Int.ediv_nonneg (by omega) (by omega)
    unfold PySem.Builtin.Range.small
    simp only [PySem.Builtin.Range.rangeFitsLong, Bool.and_eq_true, Bool.or_eq_true, decide_eq_true_eq, beq_iff_eq]
    rw [hp]
    have : c > 0 := hc
    simp only [this, if_true]
    refine ⟨?_, ?_⟩
    · refine ⟨⟨⟨⟨?_, ?_⟩, ?_, ?_⟩, ?_, ?_⟩, ?_, ?_⟩ <;> first | omega | (split <;> omega)
    · refine .inr ?_
      rw [Bool.and_eq_true, decide_eq_true_eq, decide_eq_true_eq]
      omega
  rw [h5, h6, h7, h8]; rfl
theorem mem_rangeC {i j c x : Int} (hc : 0 < c) (h : x ∈ rangeC i j c) : i ≤ x ∧ x < j := by
  unfold rangeC at h
  obtain ⟨k, hk, rfl⟩ := List.mem_map.mp h
  have hk := List.mem_range.mp hk
  rw [size_pos hc] at hk
  split at hk
  · rename_i hij
    have h1 : (k : Int) ≤ (j - i - 1) / c := by omega
    have h2 : (k : Int) * c ≤ j - i - 1 := (Int.le_ediv_iff_mul_le hc).mp h1
    have h3 : 0 ≤ (k : Int) * c := Int.mul_nonneg (by omega) (by omega)
    omega
  · omega
theorem len_rangeC {i j c : Int} (hc : 0 < c) : (rangeC i j c).length ≤ (j - i).toNat := by
  unfold rangeC
  rw [List.length_map, List.length_range]
  exact size_le hc
/-- rising numbers in a round are no more than its size -/
theorem len_up {m : Int} : ∀ {xs : List Int} {a : Int}, xs.Pairwise (· < ·) → (∀ x ∈ xs, a ≤ x ∧ x < m) → a ≤ m → (xs.length : Int) ≤ m - a
  | [], a, _, _, h => by simp; omega
  | x :: xs, a, hu, hb, h => by
    obtain ⟨h1, h2⟩ := List.pairwise_cons.mp hu
    have hx := hb x List.mem_cons_self
    have := len_up (a := x + 1) h2 (fun y hy => ⟨by have := h1 y hy; omega, (hb y (List.mem_cons_of_mem _ hy)).2⟩) (by omega)
    simp only [List.length_cons]
    omega
theorem dMul_rep {m x : Int} (h : 0 ≤ m) (h2 : m ≤ 1000000) : dMul (.lst [.int x]) (.int m) = .ok (.ow (.lst ((List.replicate m.toNat x).map D.int))) := by
  show (if 1 * m.toNat ≤ 16777216 ∧ m < 2 ^ 63 ∧ -(2 ^ 63) ≤ m then oD (.lst (List.replicate m.toNat [.int x]).flatten) else .st) = _
  rw [if_pos ⟨by omega, by omega, by omega⟩]
  have : ∀ n : Nat, (List.replicate n [D.int x]).flatten = (List.replicate n x).map D.int := by
    intro n
    induction n with
    | zero => rfl
    | succ n ih => rw [List.replicate_succ, List.flatten_cons, ih, List.replicate_succ]; rfl
  rw [this]; rfl
theorem set_map (xs : List Int) (i : Nat) (v : Int) : (xs.map D.int).set i (.int v) = (xs.set i v).map D.int := by
  rw [List.map_set]
/-- the number that b of the round leads to -/
theorem mod_iff {m a b n : Int} (hb : 0 ≤ b ∧ b < m) (hn : 0 ≤ n ∧ n < m) : (n - a) % m = b ↔ n = (a + b) % m := by
  constructor
  · intro h
    rw [← h, Int.add_emod, Int.emod_emod_of_dvd _ (Int.dvd_refl m), ← Int.add_emod]
    have : a + (n - a) = n := by omega
    rw [this, Int.emod_eq_of_lt hn.1 hn.2]
  · intro h
    rw [h, Int.sub_emod, Int.emod_emod_of_dvd _ (Int.dvd_refl m), ← Int.sub_emod]
    have : a + b - a = b := by omega
    rw [this, Int.emod_eq_of_lt hb.1 hb.2]
@[simp] theorem dEq_nilT (a : List Int) : dEq (.tup (a.map D.int)) (.tup []) = .ok (.cl (.bl (decide (a = [])))) := dEq_ints a []
@[simp] theorem dNe_nilT (a : List Int) : dNe (.tup (a.map D.int)) (.tup []) = .ok (.cl (.bl (!decide (a = [])))) := dNe_ints a []
@[simp] theorem dEq_nilL (a : List Int) : dEq (.lst (a.map D.int)) (.lst []) = .ok (.cl (.bl (decide (a = [])))) := dEq_intsL a []
@[simp] theorem dNe_nilL (a : List Int) : dNe (.lst (a.map D.int)) (.lst []) = .ok (.cl (.bl (!decide (a = [])))) := dNe_intsL a []
@[simp] theorem dEq_nilT0 : dEq (.tup []) (.tup []) = .ok (.cl (.bl true)) := dEq_ints [] []
@[simp] theorem dNe_nilT0 : dNe (.tup []) (.tup []) = .ok (.cl (.bl false)) := dNe_ints [] []
@[simp] theorem dEq_nilL0 : dEq (.lst []) (.lst []) = .ok (.cl (.bl true)) := dEq_intsL [] []
@[simp] theorem dNe_nilL0 : dNe (.lst []) (.lst []) = .ok (.cl (.bl false)) := dNe_intsL [] []
theorem any_int (k : Int) (ys : List Int) : ((ys.map D.int).any fun z => deq z (.int k)) = decide (k ∈ ys) := by
  induction ys with
  | nil => simp
  | cons y ys ih =>
    rw [List.map_cons, List.any_cons, ih, deq_int]
    by_cases h : y = k <;> by_cases h2 : k ∈ ys <;> simp [h, h2] <;> exact fun e => h e.symm
@[simp] theorem dIn_tupI (k : Int) (ys : List Int) : dIn (.int k) (.tup (ys.map D.int)) = .ok (.cl (.bl (decide (k ∈ ys)))) := by
  unfold dIn dIn0
  simp [any_int, -List.any_map]
@[simp] theorem dIn_lstI (k : Int) (ys : List Int) : dIn (.int k) (.lst (ys.map D.int)) = .ok (.cl (.bl (decide (k ∈ ys)))) := by
  unfold dIn dIn0
  simp [any_int, -List.any_map]
@[simp] theorem dNotIn_tupI (k : Int) (ys : List Int) : dNotIn (.int k) (.tup (ys.map D.int)) = .ok (.cl (.bl (!decide (k ∈ ys)))) := by
  unfold dNotIn dIn0
  simp [any_int, -List.any_map]
@[simp] theorem dNotIn_lstI (k : Int) (ys : List Int) : dNotIn (.int k) (.lst (ys.map D.int)) = .ok (.cl (.bl (!decide (k ∈ ys)))) := by
  unfold dNotIn dIn0
  simp [any_int, -List.any_map]
@[simp] theorem dMin2_int (i j : Int) : dMin2 (.int i) (.int j) = .ok (.cl (.int (if j < i then j else i))) := rfl
theorem dSortedA_tup (ns : List Int) : dSortedA (.tup (ns.map D.int)) = .ok (.ow (.lst ((sortI ns).map D.int))) := by
  show (match intsOf (ns.map D.int) with | some ns => oD (.lst ((sortI ns).map D.int)) | none => .st) = _
  rw [intsOf_ints]
  rfl
theorem dSorted_lst (xs : List Int) : dSorted (.lst (xs.map D.int)) = .ok (.ow (.lst ((sortI xs).map D.int))) := by
  simp [dSorted, lstInts, intsOf_ints, -List.map_map]
theorem sort_lt : ∀ {l : List Int}, l.Pairwise (· ≤ ·) → l.Nodup → l.Pairwise (· < ·)
  | [], _, _ => .nil
  | x :: l, h, n => by
    obtain ⟨a, b⟩ := List.pairwise_cons.mp h
    obtain ⟨c, d⟩ := List.nodup_cons.mp n
    refine List.pairwise_cons.mpr ⟨fun y hy => ?_, sort_lt b d⟩
    have h1 := a y hy
    have h2 : x ≠ y := fun e => c (e ▸ hy)
    omega
theorem sort_nodup {l : List Int} (h : l.Nodup) : sortI l = sset l := up_one (sort_lt (up_sortI l) (perm_sortI.nodup_iff.mpr h)) (up_sset l) fun k => by rw [mem_sset, perm_sortI.mem_iff]
theorem nodup_up {l : List Int} (h : l.Pairwise (· < ·)) : l.Nodup := h.imp fun h => by omega
/-- sorted(set()) -/
theorem dSortS_tup {xs : List Int} (h : xs.length < 4095) : dSortS (.tup (xs.map D.int)) = .ok (.ow (.lst ((sset xs).map D.int))) := by
  simp [dSortS, setInts, seqInts, intsOf_ints, h]
theorem dSortS_lst {xs : List Int} (h : xs.length < 4095) : dSortS (.lst (xs.map D.int)) = .ok (.ow (.lst ((sset xs).map D.int))) := by
  simp [dSortS, setInts, seqInts, intsOf_ints, h]
theorem keysInt_map {β : Type} (f : β → Int) (g : β → D) (xs : List β) : keysInt (xs.map fun x => (Sum.inl (f x), g x)) = some (xs.map f) := by
  induction xs with
  | nil => rfl
  | cons x xs ih => simp [keysInt, ih]
theorem dSortS_dct {β : Type} (f : β → Int) (g : β → D) {xs : List β} (h : xs.length < 4095) : dSortS (.dct (xs.map fun x => (Sum.inl (f x), g x))) = .ok (.ow (.lst ((sset (xs.map f)).map D.int))) := by
  simp [dSortS, setInts, keysInt_map, h]
@[simp] theorem isSetB_ints (xs : List Int) : isSetB (.tup (xs.map D.int)) = decide (xs.Pairwise (· < ·)) := by
  simp [isSetB, intsOf_ints]
theorem sset_up {xs : List Int} (h : xs.Pairwise (· < ·)) : sset xs = xs := up_one (up_sset xs) h fun k => mem_sset
/-- ranges -/
theorem smallI_of {i : Int} (h : -8000000 ≤ i) (h2 : i ≤ 8000000) : smallI i = true := by
  unfold smallI; simp [h, h2]
@[simp] theorem wipeE_nil (e : Env) : wipeE e [] = e := rfl
@[simp] theorem wipeE_cons (e : Env) (v : Nat) (vs : List Nat) : wipeE e (v :: vs) = (wipeE e vs).set v .un := rfl
/-- comprehensions, as maps -/
def cmpO {β : Type} (c : β → Out Bool) (f : β → Out R) : List β → Out (List D)
  | [] => .ok []
  | x :: xs => match c x with
    | .ok true => (match f x with
      | .ok (.bo _) => .st
      | .ok r => consO r.d (cmpO c f xs)
      | _ => .st)
    | .ok false => cmpO c f xs
    | _ => .st
theorem comp_map {β : Type} (i : Nat) (c : Tx) (f : Sx) (j : β → D) (env : Env) : ∀ xs : List β, compF (.one i) c f (xs.map j) env = cmpO (fun x => c (env.set i (.sh (j x)))) (fun x => f (env.set i (.sh (j x)))) xs
  | [] => by unfold compF cmpO; rfl
  | x :: xs => by
    rw [List.map_cons]
    unfold compF cmpO
    show (match c (env.set i (.sh (j x))) with | .ok true => _ | .ok false => _ | _ => _) = _
    rw [comp_map i c f j env xs]
    all_goals rfl
theorem cmpO_all {β : Type} {c : β → Out Bool} {f : β → Out R} (h : β → D) (p : β → Bool) : ∀ {xs : List β}, (∀ x ∈ xs, c x = .ok (p x)) → (∀ x ∈ xs, p x = true → f x = .ok (.cl (h x)) ∨ f x = .ok (.ow (h x))) → cmpO c f xs = .ok ((xs.filter p).map h)
  | [], _, _ => rfl
  | x :: xs, hc, hf => by
    have ih := cmpO_all h p (fun y hy => hc y (List.mem_cons_of_mem _ hy)) (fun y hy => hf y (List.mem_cons_of_mem _ hy))
    unfold cmpO
    rw [hc x List.mem_cons_self]
    cases e0 : p x with
    | false =>
      simp only []
      rw [ih, List.filter_cons_of_neg (by rw [e0]; exact Bool.false_ne_true)]
    | true =>
      simp only []
      rw [List.filter_cons_of_pos e0]
      rcases hf x List.mem_cons_self e0 with e | e <;> rw [e] <;> simp only [] <;> rw [ih] <;> rfl
theorem cmpO_map {β : Type} {c : β → Out Bool} {f : β → Out R} (h : β → D) {xs : List β} (hc : ∀ x ∈ xs, c x = .ok true) (hf : ∀ x ∈ xs, f x = .ok (.cl (h x)) ∨ f x = .ok (.ow (h x))) : cmpO c f xs = .ok (xs.map h) := by
  have := cmpO_all h (fun _ => true) (xs := xs) hc fun x hx _ => hf x hx
  rwa [List.filter_eq_self.mpr (by intro _ _; rfl)] at this
@[simp] theorem cmpO_int {β : Type} (h : β → Int) (xs : List β) : cmpO (fun _ => .ok true) (fun x => .ok (.cl (.int (h x)))) xs = .ok ((xs.map h).map D.int) := by
  rw [cmpO_map (fun x => D.int (h x)) (fun _ _ => rfl) fun _ _ => .inl rfl, List.map_map]; rfl
@[simp] theorem cmpO_intp {β : Type} (p : β → Bool) (h : β → Int) (xs : List β) : cmpO (fun x => .ok (p x)) (fun x => .ok (.cl (.int (h x)))) xs = .ok (((xs.filter p).map h).map D.int) := by
  rw [cmpO_all (fun x => D.int (h x)) p (fun _ _ => rfl) fun _ _ _ => .inl rfl, List.map_map]; rfl
theorem cmpO_ints {β : Type} {f : β → Out R} (h : β → Int) {xs : List β} (hf : ∀ x ∈ xs, f x = .ok (.cl (.int (h x)))) : cmpO (fun _ => .ok true) f xs = .ok ((xs.map h).map D.int) := by
  rw [cmpO_map (fun x => D.int (h x)) (fun _ _ => rfl) fun x hx => .inl (hf x hx), List.map_map]; rfl
theorem cmpO_bls {β : Type} {f : β → Out R} (h : β → Bool) {xs : List β} (hf : ∀ x ∈ xs, f x = .ok (.cl (.bl (h x)))) : cmpO (fun _ => .ok true) f xs = .ok (xs.map fun x => D.bl (h x)) :=
  cmpO_map (fun x => D.bl (h x)) (fun _ _ => rfl) fun x hx => .inl (hf x hx)
@[simp low] theorem cmpO_cl {β : Type} (h : β → D) (xs : List β) : cmpO (fun _ => .ok true) (fun x => .ok (.cl (h x))) xs = .ok (xs.map h) := cmpO_map h (fun _ _ => rfl) fun _ _ => .inl rfl
@[simp low] theorem cmpO_ow {β : Type} (h : β → D) (xs : List β) : cmpO (fun _ => .ok true) (fun x => .ok (.ow (h x))) xs = .ok (xs.map h) := cmpO_map h (fun _ _ => rfl) fun _ _ => .inr rfl
@[simp low] theorem cmpO_clp {β : Type} (p : β → Bool) (h : β → D) (xs : List β) : cmpO (fun x => .ok (p x)) (fun x => .ok (.cl (h x))) xs = .ok ((xs.filter p).map h) := cmpO_all h p (fun _ _ => rfl) fun _ _ _ => .inl rfl
theorem cmpO_congr {β : Type} {c c' : β → Out Bool} {f f' : β → Out R} {xs xs' : List β} (hx : xs = xs') (hc : ∀ x ∈ xs', c x = c' x) (hf : ∀ x ∈ xs', f x = f' x) : cmpO c f xs = cmpO c' f' xs' := by
  subst hx
  induction xs with
  | nil => rfl
  | cons x xs ih =>
    unfold cmpO
    rw [hc x List.mem_cons_self, hf x List.mem_cons_self, ih (fun y hy => hc y (List.mem_cons_of_mem _ hy)) (fun y hy => hf y (List.mem_cons_of_mem _ hy))]
def bCo (o : Out (List D)) : Out R := match o with
  | .ok rs => .ok (.ow (.lst rs))
  | _ => .st
@[simp] theorem bCo_ok (rs : List D) : bCo (.ok rs) = .ok (.ow (.lst rs)) := rfl
@[simp] theorem bC_bCo (b : Bool) (ds : List D) (k : List D → Out (List D)) : bC (.ok (b, ds)) k = bCo (k ds) := rfl
@[simp] theorem compF_map {β : Type} (i : Nat) (c : Tx) (f : Sx) (j : β → D) (env : Env) (xs : List β) : compF (.one i) c f (xs.map j) env = cmpO (fun x => c (env.set i (.sh (j x)))) (fun x => f (env.set i (.sh (j x)))) xs := comp_map i c f j env xs
@[simp low] theorem compF_ds (i : Nat) (c : Tx) (f : Sx) (env : Env) (xs : List D) : compF (.one i) c f xs env = cmpO (fun x => c (env.set i (.sh x))) (fun x => f (env.set i (.sh x))) xs := by
  have := comp_map i c f id env xs
  rwa [List.map_id] at this
theorem cmpO_mapL {β : Type} (c : D → Out Bool) (f : D → Out R) (j : β → D) : ∀ xs : List β, cmpO c f (xs.map j) = cmpO (fun x => c (j x)) (fun x => f (j x)) xs
  | [] => rfl
  | x :: xs => by
    rw [List.map_cons]
    unfold cmpO
    rw [cmpO_mapL c f j xs]
@[simp] theorem cmpO_ints0 (c : D → Out Bool) (f : D → Out R) (xs : List Int) : cmpO c f (xs.map D.int) = cmpO (fun x => c (.int x)) (fun x => f (.int x)) xs := cmpO_mapL c f D.int xs
@[simp] theorem cmpO_range0 (c : D → Out Bool) (f : D → Out R) (lo : Int) (n : Nat) : cmpO c f (rangeD lo n) = cmpO (fun x : Nat => c (.int (lo + (x : Int)))) (fun x : Nat => f (.int (lo + (x : Int)))) (List.range n) := cmpO_mapL c f _ _
@[simp] theorem cmpO_nil {β : Type} (c : β → Out Bool) (f : β → Out R) : cmpO c f [] = .ok [] := rfl
@[simp] theorem compF_range (i : Nat) (c : Tx) (f : Sx) (lo : Int) (n : Nat) (env : Env) : compF (.one i) c f (rangeD lo n) env = cmpO (fun x : Nat => c (env.set i (.sh (.int (lo + (x : Int)))))) (fun x : Nat => f (env.set i (.sh (.int (lo + (x : Int)))))) (List.range n) := comp_map i c f _ env _
@[simp] theorem bS_bS (o : SO) (k1 k2 : Env → SO) : bS (bS o k1) k2 = bS o fun e => bS (k1 e) k2 := by
  cases o <;> rfl
theorem bS_if {c : Prop} [Decidable c] (a b : SO) (k : Env → SO) : bS (if c then a else b) k = if c then bS a k else bS b k := by
  by_cases h : c <;> simp [h]

theorem k_appI {xs : List Int} {a : Int} (h : xs.length < 16777216) : kAppend (.lst (xs.map D.int)) (.int a) = some (.lst ((xs ++ [a]).map D.int)) := by
  rw [k_append (by simpa using h)]
  simp
@[simp] theorem k_app0 (a : D) : kAppend (.lst []) a = some (.lst [a]) := by rw [k_append (by simp)]; rfl

/-! ### dicts with whole numbers as keys -/
def encM {β : Type} (j : β → D) (p : Int × β) : L2.Key × D := (Sum.inl p.1, j p.2)
def putM {β : Type} (m : List (Int × β)) (k : Int) (v : β) : List (Int × β) :=
  if (m.any fun p => decide (p.1 = k)) = true then m.map (fun p => if p.1 = k then (p.1, v) else p) else m ++ [(k, v)]
def lookM {β : Type} (m : List (Int × β)) (k : Int) : Option β := (m.find? fun p => decide (p.1 = k)).map (·.2)
theorem any_enc {β : Type} (j : β → D) (k : Int) : ∀ m : List (Int × β), ((m.map (encM j)).any fun kv => decide (kv.1 = Sum.inl k)) = m.any fun p => decide (p.1 = k)
  | [] => rfl
  | p :: m => by
    rw [List.map_cons, List.any_cons, List.any_cons, any_enc j k m]
    congr 1
    show decide ((Sum.inl p.1 : L2.Key) = Sum.inl k) = decide (p.1 = k)
    by_cases h : p.1 = k
    · rw [h]; simp
    · have : ¬ (Sum.inl p.1 : L2.Key) = Sum.inl k := fun e => h (Sum.inl.inj e)
      rw [decide_eq_false this, decide_eq_false h]
theorem put_enc {β : Type} (j : β → D) (m : List (Int × β)) (k : Int) (v : β) : dPut (m.map (encM j)) (.inl k) (j v) = (putM m k v).map (encM j) := by
  unfold dPut putM
  rw [any_enc]
  by_cases h : (m.any fun p => decide (p.1 = k)) = true
  · rw [if_pos h, if_pos h, List.map_map, List.map_map]
    apply List.map_congr_left
    intro p _
    show (if (Sum.inl p.1 : L2.Key) = Sum.inl k then _ else _) = encM j (if p.1 = k then _ else _)
    by_cases e : p.1 = k
    · rw [if_pos e, if_pos (by rw [e])]; rfl
    · rw [if_neg e, if_neg fun q => e (Sum.inl.inj q)]
  · rw [if_neg h, if_neg h, List.map_append]; rfl
theorem look_enc {β : Type} (j : β → D) (k : Int) : ∀ m : List (Int × β), dLook (m.map (encM j)) (.inl k) = (lookM m k).map j
  | [] => rfl
  | p :: m => by
    have ih := look_enc j k m
    unfold dLook lookM at *
    rw [List.map_cons, List.find?_cons, List.find?_cons]
    have : decide ((encM j p).1 = Sum.inl k) = decide (p.1 = k) := by
      by_cases h : p.1 = k
      · rw [decide_eq_true h]; exact decide_eq_true (by show Sum.inl p.1 = Sum.inl k; rw [h])
      · rw [decide_eq_false h]; exact decide_eq_false fun e => h (Sum.inl.inj e)
    rw [this]
    by_cases h : p.1 = k
    · rw [decide_eq_true h]; rfl
    · rw [decide_eq_false h]; exact ih
theorem keys_enc {β : Type} (j : β → D) (m : List (Int × β)) : keysInt (m.map (encM j)) = some (m.map (·.1)) := keysInt_map (fun p : Int × β => p.1) (fun p => j p.2) m
theorem dSortS_enc {β : Type} (j : β → D) {m : List (Int × β)} (h : m.length < 4095) : dSortS (.dct (m.map (encM j))) = .ok (.ow (.lst ((sset (m.map (·.1))).map D.int))) := dSortS_dct (fun p : Int × β => p.1) (fun p => j p.2) h
theorem mem_putM {β : Type} {m : List (Int × β)} {k : Int} {v : β} {i : Int} : i ∈ (putM m k v).map (·.1) ↔ i ∈ m.map (·.1) ∨ i = k := by
  unfold putM
  by_cases h : (m.any fun p => decide (p.1 = k)) = true
  · rw [if_pos h, List.map_map]
    have e : m.map ((fun p => p.1) ∘ fun p => if p.1 = k then (p.1, v) else p) = m.map (·.1) := by
      apply List.map_congr_left
      intro p _
      show (if p.1 = k then (p.1, v) else p).1 = p.1
      split <;> rfl
    rw [e]
    constructor
    · exact .inl
    · rintro (q | q)
      · exact q
      · obtain ⟨p, hp, e⟩ := List.any_eq_true.mp h
        rw [q, ← of_decide_eq_true e]
        exact List.mem_map_of_mem hp
  · rw [if_neg h]; simp
theorem len_putM {β : Type} {m : List (Int × β)} {k : Int} {v : β} : (putM m k v).length ≤ m.length + 1 := by
  unfold putM
  split <;> simp
/-- all sums of two lists -/
def sumL (xs ys : List Int) : List Int := xs.flatMap fun a => ys.map fun b => a + b
theorem mem_sumL {xs ys : List Int} {k : Int} : k ∈ sumL xs ys ↔ ∃ a ∈ xs, ∃ b ∈ ys, k = a + b := by
  unfold sumL
  rw [List.mem_flatMap]
  constructor
  · rintro ⟨a, ha, h⟩
    obtain ⟨b, hb, e⟩ := List.mem_map.mp h
    exact ⟨a, ha, b, hb, e.symm⟩
  · rintro ⟨a, ha, b, hb, e⟩
    exact ⟨a, ha, List.mem_map.mpr ⟨b, hb, e.symm⟩⟩
theorem sset_congr {xs ys : List Int} (h : ∀ k, k ∈ xs ↔ k ∈ ys) : sset xs = sset ys := up_one (up_sset _) (up_sset _) fun k => by rw [mem_sset, mem_sset, h k]
@[simp] theorem itemsOf_lst (l : List D) : itemsOf (.lst l) = some l := rfl
@[simp] theorem itemsOf_tup (l : List D) : itemsOf (.tup l) = some l := rfl

/-! ### what holds behind -/
/-- N: on to the next, C: continue, B: break, T: told, X: raised -/
def wp (N C B : Env → Prop) (T : R → Prop) (X : String → Prop) : SO → Prop
  | .nx e => N e
  | .ct e => C e
  | .bk e => B e
  | .rt r => T r
  | .ex c _ => X c
  | .st => False
section
variable {N C B : Env → Prop} {T : R → Prop} {X : String → Prop}
@[simp] theorem wp_nx (e : Env) : wp N C B T X (.nx e) = N e := rfl
@[simp] theorem wp_ct (e : Env) : wp N C B T X (.ct e) = C e := rfl
@[simp] theorem wp_bk (e : Env) : wp N C B T X (.bk e) = B e := rfl
@[simp] theorem wp_rt (r : R) : wp N C B T X (.rt r) = T r := rfl
@[simp] theorem wp_ex (c : String) (e : Env) : wp N C B T X (.ex c e) = X c := rfl
theorem wp_seq {o : SO} {k : Env → SO} (h : wp (fun e => wp N C B T X (k e)) C B T X o) : wp N C B T X (bS o k) := by
  cases o <;> exact h
theorem wp_mono {N' C' B' : Env → Prop} {T' : R → Prop} {X' : String → Prop} {o : SO} (h : wp N C B T X o) (n : ∀ e, N e → N' e) (c : ∀ e, C e → C' e) (b : ∀ e, B e → B' e) (t : ∀ r, T r → T' r) (x : ∀ c, X c → X' c) : wp N' C' B' T' X' o := by
  cases o with
  | nx e => exact n e h
  | ct e => exact c e h
  | bk e => exact b e h
  | rt e => exact t e h
  | ex e _ => exact x e h
  | st => exact h
/-- what stands between two statements -/
theorem wp_cut {o : SO} {k : Env → SO} (M : Env → Prop) (h : wp M (fun _ => False) (fun _ => False) (fun _ => False) (fun _ => False) o) (g : ∀ e, M e → wp N C B T X (k e)) : wp N C B T X (bS o k) :=
  wp_seq (wp_mono h g (fun _ z => z.elim) (fun _ z => z.elim) (fun _ z => z.elim) (fun _ z => z.elim))
theorem wp_if {c : Bool} {e : Env} {f g : Stx} (h1 : c = true → wp N C B T X (f e)) (h2 : c = false → wp N C B T X (g e)) : wp N C B T X (bI (.ok c) e f g) := by
  cases c
  · exact h2 rfl
  · exact h1 rfl
theorem wp_ifk {c : Bool} {e : Env} {f g : Stx} {k : Env → SO} (h1 : c = true → wp N C B T X (bS (f e) k)) (h2 : c = false → wp N C B T X (bS (g e) k)) : wp N C B T X (bS (bI (.ok c) e f g) k) := by
  cases c
  · exact h2 rfl
  · exact h1 rfl
theorem wp_at {l : List D} {i : Int} {env : Env} {k : R → Env → SO} (h0 : 0 ≤ i) (h : i < l.length) (q : ∀ v ∈ l, wp N C B T X (k (.cl v) env)) : wp N C B T X (bX (oO (atI l i)) env k) := by
  obtain ⟨v, hv, e⟩ := atI_mem h0 h
  rw [e]
  exact q v hv
/-- a function that tells just v -/
theorem ret_eq {v : R} {o : SO} (h : wp (fun _ => False) (fun _ => False) (fun _ => False) (fun r => r = v) (fun _ => False) o) : outS o = .ok v := by
  cases o <;> first | (cases h; done) | exact congrArg Out.ok h
theorem ret_non {o : SO} (h : wp (fun _ => True) (fun _ => False) (fun _ => False) (fun r => r = .cl .non) (fun _ => False) o) : outS o = .ok (.cl .non) := by
  cases o <;> first | (cases h; done) | rfl | exact congrArg Out.ok h
theorem ret_ex {v : String} {o : SO} (h : wp (fun _ => False) (fun _ => False) (fun _ => False) (fun _ => False) (fun c => c = v) o) : outS o = .ex v := by
  cases o <;> first | (cases h; done) | exact congrArg Out.ex h
theorem ret_some {Q : R → Prop} {o : SO} (h : wp (fun _ => False) (fun _ => False) (fun _ => False) Q (fun _ => False) o) : ∃ r, outS o = .ok r ∧ Q r := by
  cases o <;> first | (cases h; done) | exact ⟨_, rfl, h⟩

theorem loop_go {β : Type} {i : Nat} {b : Stx} (j : β → D) (P : List β → Env → Prop) (Bk : Env → Prop) (xs : List β)
    (turn : ∀ done x rest e, xs = done ++ x :: rest → P done e → wp (P (done ++ [x])) (P (done ++ [x])) Bk T X (b (e.set i (.sh (j x))))) :
    ∀ (rest done : List β) (e : Env), xs = done ++ rest → P done e → wp (fun e => P xs e ∨ Bk e) (fun _ => False) (fun _ => False) T X (loopF (.one i) b (rest.map j) e)
  | [], done, e, h, p => by
    rw [List.append_nil] at h
    subst h
    simp only [List.map_nil, loop_nil]
    exact .inl p
  | x :: rest, done, e, h, p => by
    have q := turn done x rest e h p
    rw [List.map_cons, loop_one]
    cases k : b (e.set i (.sh (j x))) with
    | nx e' =>
      rw [k] at q
      exact loop_go j P Bk xs turn rest (done ++ [x]) e' (by rw [h, List.append_assoc]; rfl) q
    | ct e' =>
      rw [k] at q
      exact loop_go j P Bk xs turn rest (done ++ [x]) e' (by rw [h, List.append_assoc]; rfl) q
    | bk e' => rw [k] at q; exact .inr q
    | rt r => rw [k] at q; exact q
    | ex c e' => rw [k] at q; exact q
    | st => rw [k] at q; exact q
/-- a loop over a list, with a break -/
theorem wp_forB {β : Type} {i : Nat} {b : Stx} {j : β → D} {xs : List β} {e : Env} {k : Env → SO} (P : List β → Env → Prop) (Bk : Env → Prop) (h : P [] e)
    (turn : ∀ done x rest e, xs = done ++ x :: rest → P done e → wp (P (done ++ [x])) (P (done ++ [x])) Bk T X (b (e.set i (.sh (j x)))))
    (after : ∀ e, (P xs e ∨ Bk e) → wp N C B T X (k e)) : wp N C B T X (bS (loopF (.one i) b (xs.map j) e) k) :=
  wp_seq (wp_mono (loop_go j P Bk xs turn xs [] e rfl h) after (fun _ h => h.elim) (fun _ h => h.elim) (fun _ h => h) (fun _ h => h))
theorem wp_for {β : Type} {i : Nat} {b : Stx} {j : β → D} {xs : List β} {e : Env} {k : Env → SO} (P : List β → Env → Prop) (h : P [] e)
    (turn : ∀ done x rest e, xs = done ++ x :: rest → P done e → wp (P (done ++ [x])) (P (done ++ [x])) (fun _ => False) T X (b (e.set i (.sh (j x)))))
    (after : ∀ e, P xs e → wp N C B T X (k e)) : wp N C B T X (bS (loopF (.one i) b (xs.map j) e) k) :=
  wp_forB P (fun _ => False) h turn fun e p => after e (p.elim id False.elim)
theorem wp_for_end {β : Type} {i : Nat} {b : Stx} {j : β → D} {xs : List β} {e : Env} (P : List β → Env → Prop) (h : P [] e)
    (turn : ∀ done x rest e, xs = done ++ x :: rest → P done e → wp (P (done ++ [x])) (P (done ++ [x])) (fun _ => False) T X (b (e.set i (.sh (j x)))))
    (after : ∀ e, P xs e → N e) : wp N C B T X (loopF (.one i) b (xs.map j) e) :=
  wp_mono (loop_go j P (fun _ => False) xs turn xs [] e rfl h) (fun e p => after e (p.elim id False.elim)) (fun _ h => h.elim) (fun _ h => h.elim) (fun _ h => h) (fun _ h => h)
@[simp] theorem setMany_nil (env : Env) (ds : List D) : setMany env [] ds = env := by unfold setMany; rfl
@[simp] theorem setMany_cons (env : Env) (i : Nat) (is : List Nat) (d : D) (ds : List D) : setMany env (i :: is) (d :: ds) = setMany (env.set i (.sh d)) is ds := by conv => lhs; unfold setMany
theorem loop_goT {β : Type} {t : Tgt} {b : Stx} (j : β → D) (bnd : β → Env → Env) (hb : ∀ x e, bindT t (j x) e = some (bnd x e)) (P : List β → Env → Prop) (Bk : Env → Prop) (xs : List β)
    (turn : ∀ done x rest e, xs = done ++ x :: rest → P done e → wp (P (done ++ [x])) (P (done ++ [x])) Bk T X (b (bnd x e))) :
    ∀ (rest done : List β) (e : Env), xs = done ++ rest → P done e → wp (fun e => P xs e ∨ Bk e) (fun _ => False) (fun _ => False) T X (loopF t b (rest.map j) e)
  | [], done, e, h, p => by
    rw [List.append_nil] at h
    subst h
    simp only [List.map_nil, loop_nil]
    exact .inl p
  | x :: rest, done, e, h, p => by
    have q := turn done x rest e h p
    rw [List.map_cons]
    unfold loopF
    rw [hb x e]
    show wp _ _ _ _ _ (match b (bnd x e) with | .nx e => loopF t b (rest.map j) e | .ct e => loopF t b (rest.map j) e | .bk e => .nx e | o => o)
    cases k : b (bnd x e) with
    | nx e' =>
      rw [k] at q
      exact loop_goT j bnd hb P Bk xs turn rest (done ++ [x]) e' (by rw [h, List.append_assoc]; rfl) q
    | ct e' =>
      rw [k] at q
      exact loop_goT j bnd hb P Bk xs turn rest (done ++ [x]) e' (by rw [h, List.append_assoc]; rfl) q
    | bk e' => rw [k] at q; exact .inr q
    | rt r => rw [k] at q; exact q
    | ex c e' => rw [k] at q; exact q
    | st => rw [k] at q; exact q
/-- a loop with any target -/
theorem wp_forT {β : Type} {t : Tgt} {b : Stx} {j : β → D} {xs : List β} {e : Env} {k : Env → SO} (bnd : β → Env → Env) (hb : ∀ x e, bindT t (j x) e = some (bnd x e)) (P : List β → Env → Prop) (h : P [] e)
    (turn : ∀ done x rest e, xs = done ++ x :: rest → P done e → wp (P (done ++ [x])) (P (done ++ [x])) (fun _ => False) T X (b (bnd x e)))
    (after : ∀ e, P xs e → wp N C B T X (k e)) : wp N C B T X (bS (loopF t b (xs.map j) e) k) :=
  wp_seq (wp_mono (loop_goT j bnd hb P (fun _ => False) xs turn xs [] e rfl h) (fun e p => after e (p.elim id False.elim)) (fun _ h => h.elim) (fun _ h => h.elim) (fun _ h => h) (fun _ h => h))
theorem wp_forT_end {β : Type} {t : Tgt} {b : Stx} {j : β → D} {xs : List β} {e : Env} (bnd : β → Env → Env) (hb : ∀ x e, bindT t (j x) e = some (bnd x e)) (P : List β → Env → Prop) (h : P [] e)
    (turn : ∀ done x rest e, xs = done ++ x :: rest → P done e → wp (P (done ++ [x])) (P (done ++ [x])) (fun _ => False) T X (b (bnd x e)))
    (after : ∀ e, P xs e → N e) : wp N C B T X (loopF t b (xs.map j) e) :=
  wp_mono (loop_goT j bnd hb P (fun _ => False) xs turn xs [] e rfl h) (fun e p => after e (p.elim id False.elim)) (fun _ h => h.elim) (fun _ h => h.elim) (fun _ h => h) (fun _ h => h)
/-- .. over any list of data -/
theorem wp_forD {i : Nat} {b : Stx} {xs : List D} {e : Env} {k : Env → SO} (P : List D → Env → Prop) (h : P [] e)
    (turn : ∀ done x rest e, xs = done ++ x :: rest → P done e → wp (P (done ++ [x])) (P (done ++ [x])) (fun _ => False) T X (b (e.set i (.sh x))))
    (after : ∀ e, P xs e → wp N C B T X (k e)) : wp N C B T X (bS (loopF (.one i) b xs e) k) := by
  have := wp_for (N := N) (C := C) (B := B) (T := T) (X := X) (i := i) (b := b) (j := id) (xs := xs) (e := e) (k := k) P h turn after
  rwa [List.map_id] at this
theorem wp_forD_end {i : Nat} {b : Stx} {xs : List D} {e : Env} (P : List D → Env → Prop) (h : P [] e)
    (turn : ∀ done x rest e, xs = done ++ x :: rest → P done e → wp (P (done ++ [x])) (P (done ++ [x])) (fun _ => False) T X (b (e.set i (.sh x))))
    (after : ∀ e, P xs e → N e) : wp N C B T X (loopF (.one i) b xs e) := by
  have := wp_for_end (N := N) (C := C) (B := B) (T := T) (X := X) (i := i) (b := b) (j := id) (xs := xs) (e := e) P h turn after
  rwa [List.map_id] at this
theorem range_turn {P : Nat → Env → Prop} {n : Nat} {φ : Nat → Nat → Env → Prop}
    (turn : ∀ (k : Nat) e, k < n → P k e → φ k k e) : ∀ (done : List Nat) x rest e, List.range n = done ++ x :: rest → P done.length e → φ done.length x e := by
  intro done x rest e hx p
  have hl : done.length < n := by
    have := congrArg List.length hx
    simp at this; omega
  have hg : x = done.length := by
    have := congrArg (fun l => l[done.length]?) hx
    simp [hl] at this
    exact this.symm
  subst hg
  exact turn done.length e hl p
/-- a loop over whole numbers -/
theorem wp_ran {i : Nat} {b : Stx} {lo : Int} {n : Nat} {e : Env} {k : Env → SO} (P : Nat → Env → Prop) (h : P 0 e)
    (turn : ∀ (k : Nat) e, k < n → P k e → wp (P (k + 1)) (P (k + 1)) (fun _ => False) T X (b (e.set i (.sh (.int (lo + (k : Int)))))))
    (after : ∀ e, P n e → wp N C B T X (k e)) : wp N C B T X (bS (loopF (.one i) b (rangeD lo n) e) k) := by
  refine wp_for (j := fun k : Nat => .int (lo + (k : Int))) (xs := List.range n) (fun done => P done.length) h (fun done x rest e hx p => ?_) fun e p => after e (by simpa using p)
  have := range_turn (φ := fun m x e => wp (P (m + 1)) (P (m + 1)) (fun _ => False) T X (b (e.set i (.sh (.int (lo + (x : Int))))))) turn done x rest e hx p
  simpa using this
theorem wp_ran_end {i : Nat} {b : Stx} {lo : Int} {n : Nat} {e : Env} (P : Nat → Env → Prop) (h : P 0 e)
    (turn : ∀ (k : Nat) e, k < n → P k e → wp (P (k + 1)) (P (k + 1)) (fun _ => False) T X (b (e.set i (.sh (.int (lo + (k : Int)))))))
    (after : ∀ e, P n e → N e) : wp N C B T X (loopF (.one i) b (rangeD lo n) e) := by
  refine wp_for_end (j := fun k : Nat => .int (lo + (k : Int))) (xs := List.range n) (fun done => P done.length) h (fun done x rest e hx p => ?_) fun e p => after e (by simpa using p)
  have := range_turn (φ := fun m x e => wp (P (m + 1)) (P (m + 1)) (fun _ => False) T X (b (e.set i (.sh (.int (lo + (x : Int))))))) turn done x rest e hx p
  simpa using this
/-- a while loop: n turns at most, each makes the number less -/
theorem wp_whileF {t : Tx} {b : Stx} {k : Env → SO} (P : Nat → Env → Prop)
    (turn : ∀ n e, P n e → (t e = .ok false ∧ wp N C B T X (k e)) ∨ (t e = .ok true ∧ ∃ m, m < n ∧ wp (P m) (P m) (fun e => wp N C B T X (k e)) T X (b e))) :
    ∀ (f n : Nat) (e : Env), n < f → P n e → wp (fun e => wp N C B T X (k e)) (fun _ => False) (fun _ => False) T X (whileF t b f e)
  | 0, _, _, h, _ => absurd h (Nat.not_lt_zero _)
  | f + 1, n, e, h, p => by
    rcases turn n e p with ⟨q, z⟩ | ⟨q, m, hm, z⟩
    · unfold whileF
      rw [q]
      exact z
    · unfold whileF
      rw [q]
      show wp _ _ _ _ _ (match b e with | .nx e => whileF t b f e | .ct e => whileF t b f e | .bk e => .nx e | o => o)
      cases k2 : b e with
      | nx e' => rw [k2] at z; exact wp_whileF P turn f m e' (by omega) z
      | ct e' => rw [k2] at z; exact wp_whileF P turn f m e' (by omega) z
      | bk e' => rw [k2] at z; exact z
      | rt r => rw [k2] at z; exact z
      | ex c e' => rw [k2] at z; exact z
      | st => rw [k2] at z; exact z
theorem wp_while {t : Tx} {b : Stx} {fuel : Env → Nat} {e : Env} {k : Env → SO} (P : Nat → Env → Prop) (n : Nat) (hn : n < fuel e) (h : P n e)
    (turn : ∀ n e, P n e → (t e = .ok false ∧ wp N C B T X (k e)) ∨ (t e = .ok true ∧ ∃ m, m < n ∧ wp (P m) (P m) (fun e => wp N C B T X (k e)) T X (b e))) :
    wp N C B T X (bS (sWhile fuel t b e) k) :=
  wp_seq (wp_mono (wp_whileF P turn (fuel e) n e hn h) (fun _ h => h) (fun _ h => h.elim) (fun _ h => h.elim) (fun _ h => h) (fun _ h => h))
end
/-- a loop over a list in which an own list lies -/
theorem wp_forL {N C B : Env → Prop} {T : R → Prop} {X : String → Prop} {i : Nat} {ws : List Nat} {src : Ix} {t : Tgt} {b : Stx} {e : Env} {k : Env → SO} {ds items : List D} (h : e[i]? = some (.ow (.lst ds))) (hs : src (e.set i (.sh (.lst ds))) = .ok (true, items)) (E' : Env)
    (hw : ∀ a, wp (fun e' => e'[i]? = some (.exc a) ∧ (wipeE (wkE e') ws).set i (.ow (.lst ds)) = E') (fun _ => False) (fun _ => False) (fun _ => False) (fun _ => False) (loopF t b items (e.set i (.exc a)))) (g : wp N C B T X (k E')) :
    wp N C B T X (bS (sForL i ws src t b e) k) := by
  have q : sForL i ws src t b e = .nx E' := by
    unfold sForL
    rw [h]
    simp only []
    rw [hs]
    simp only []
    have : (fun a => unlend i ws a ds (loopF t b items (e.set i (.exc a)))) = fun _ => SO.nx E' := by
      funext a
      have w := hw a
      cases o : loopF t b items (e.set i (.exc a)) with
      | nx e' =>
        rw [o] at w
        obtain ⟨w1, w2⟩ := w
        show (if isExc a e'[i]? = true then SO.nx ((wipeE (wkE e') ws).set i (.ow (.lst ds))) else .st) = _
        rw [w1, if_pos (by unfold isExc; exact decide_eq_true rfl), w2]
      | _ => rw [o] at w; exact w.elim
    rw [this, sameS_const]
  rw [q]
  exact g
/-- the least number that does -/
theorem least_of {P : Nat → Prop} : ∀ n, 1 ≤ n → P n → ∃ d, 1 ≤ d ∧ d ≤ n ∧ P d ∧ ∀ h, 1 ≤ h → h < d → ¬ P h := by
  intro n
  induction n using Nat.strongRecOn with
  | _ n ih =>
    intro h1 hp
    by_cases q : ∃ h, 1 ≤ h ∧ h < n ∧ P h
    · obtain ⟨h, h2, h3, h4⟩ := q
      obtain ⟨d, d1, d2, d3, d4⟩ := ih h h3 h2 h4
      exact ⟨d, d1, by omega, d3, d4⟩
    · exact ⟨n, h1, Nat.le_refl _, hp, fun h h2 h3 h4 => q ⟨h, h2, h3, h4⟩⟩
/-! ### == of nested data -/
mutual
def D.lay : D → Bool
  | .non => true
  | .bl _ => true
  | .int _ => true
  | .str s => PyData.strOk s
  | .tup l => layL l
  | .lst l => layL l
  | _ => false
def layL : List D → Bool
  | [] => true
  | d :: ds => d.lay && layL ds
end
mutual
def D.dep : D → Nat
  | .tup l => depL l + 1
  | .lst l => depL l + 1
  | _ => 0
def depL : List D → Nat
  | [] => 0
  | d :: ds => max d.dep (depL ds)
end
mutual
theorem lay_py : ∀ d : D, d.lay = true → ∃ p, toPy d = some p ∧ p.canLay0 = true ∧ p.depth = d.dep
  | .non, _ => ⟨_, rfl, rfl, rfl⟩
  | .bl _, _ => ⟨_, rfl, rfl, rfl⟩
  | .int _, _ => ⟨_, rfl, rfl, rfl⟩
  | .str s, h => ⟨_, rfl, h, rfl⟩
  | .tup l, h => by
    obtain ⟨ps, e, h1, h2⟩ := layL_py l h
    exact ⟨.tuple ps, by simp [toPy, e], h1, by simp [PyData.depth, D.dep, h2] ⟩
  | .lst l, h => by
    obtain ⟨ps, e, h1, h2⟩ := layL_py l h
    exact ⟨.list ps, by simp [toPy, e], h1, by simp [PyData.depth, D.dep, h2] ⟩
  | .dct _, h => by cases h
  | .scr _, h => by cases h
  | .dcz _, h => by cases h
theorem layL_py : ∀ l : List D, layL l = true → ∃ ps, toPys l = some ps ∧ PyData.canLayAll0 ps = true ∧ PyData.depthAll ps = depL l
  | [], _ => ⟨[], rfl, rfl, rfl⟩
  | d :: ds, h => by
    simp only [layL, Bool.and_eq_true] at h
    obtain ⟨p, e, h1, h2⟩ := lay_py d h.1
    obtain ⟨ps, e', h1', h2'⟩ := layL_py ds h.2
    exact ⟨p :: ps, by simp [toPys, e, e'], by simp [PyData.canLayAll0, h1, h1'], by simp [PyData.depthAll, depL, h2, h2']⟩
end
theorem pyOk_lay {d : D} (h : d.lay = true) (k : d.dep ≤ 64) : pyOk d = true := by
  obtain ⟨p, e, h1, h2⟩ := lay_py d h
  simp [pyOk, e, SeqAt.shaped, h1, h2, k]
theorem layL_all (l : List D) : layL l = l.all D.lay := by
  induction l with
  | nil => rfl
  | cons d ds ih => simp [layL, ih]
theorem depL_le {l : List D} {n : Nat} (h : ∀ d ∈ l, d.dep ≤ n) : depL l ≤ n := by
  induction l with
  | nil => exact Nat.zero_le _
  | cons d ds ih =>
    have h1 := h d List.mem_cons_self
    have h2 := ih fun x hx => h x (List.mem_cons_of_mem _ hx)
    simp [depL]
    omega
/-- flat, or of flat ones .. -/
def okN (n : Nat) (d : D) : Prop := d.lay = true ∧ d.dep ≤ n
theorem okN.py {n : Nat} {d : D} (h : okN n d) (k : n ≤ 64 := by decide) : pyOk d = true := pyOk_lay h.1 (Nat.le_trans h.2 k)
theorem okN.mono {n m : Nat} {d : D} (h : okN n d) (k : n ≤ m) : okN m d := ⟨h.1, Nat.le_trans h.2 k⟩
theorem okN_int (i : Int) : okN 0 (.int i) := ⟨rfl, Nat.le_refl _⟩
theorem okN_bl (b : Bool) : okN 0 (.bl b) := ⟨rfl, Nat.le_refl _⟩
theorem okN_non : okN 0 .non := ⟨rfl, Nat.le_refl _⟩
theorem okN_str {s : PySem.Str} (h : PyData.strOk s = true) : okN 0 (.str s) := ⟨h, Nat.le_refl _⟩
theorem okN_tup {n : Nat} {l : List D} (h : ∀ d ∈ l, okN n d) : okN (n + 1) (.tup l) :=
  ⟨(layL_all l).trans (List.all_eq_true.mpr fun d hd => (h d hd).1), Nat.succ_le_succ (depL_le fun d hd => (h d hd).2)⟩
theorem okN_lst {n : Nat} {l : List D} (h : ∀ d ∈ l, okN n d) : okN (n + 1) (.lst l) :=
  ⟨(layL_all l).trans (List.all_eq_true.mpr fun d hd => (h d hd).1), Nat.succ_le_succ (depL_le fun d hd => (h d hd).2)⟩
theorem okN_ints (xs : List Int) : okN 1 (.tup (xs.map D.int)) := okN_tup fun d hd => by
  obtain ⟨i, _, rfl⟩ := List.mem_map.mp hd
  exact okN_int i
theorem okN_intsL (xs : List Int) : okN 1 (.lst (xs.map D.int)) := okN_lst fun d hd => by
  obtain ⟨i, _, rfl⟩ := List.mem_map.mp hd
  exact okN_int i
theorem okN_map {α : Type} {f : α → D} {n : Nat} (xs : List α) (h : ∀ a ∈ xs, okN n (f a)) : okN (n + 1) (.lst (xs.map f)) := okN_lst fun d hd => by
  obtain ⟨i, hi, rfl⟩ := List.mem_map.mp hd
  exact h i hi
theorem okN_mapT {α : Type} {f : α → D} {n : Nat} (xs : List α) (h : ∀ a ∈ xs, okN n (f a)) : okN (n + 1) (.tup (xs.map f)) := okN_tup fun d hd => by
  obtain ⟨i, hi, rfl⟩ := List.mem_map.mp hd
  exact h i hi
@[simp] theorem pyOk_lst_nil : pyOk (.lst []) = true := rfl
@[simp] theorem pyOk_tup_nil : pyOk (.tup []) = true := rfl
theorem pyOk_flat_cons {d : D} (h : okN 0 d) (ds : List D) : pyOk (.lst (d :: ds)) = pyOk (.lst ds) := by
  obtain ⟨p, e, h1, h2⟩ := lay_py d h.1
  unfold pyOk
  simp only [toPy, toPys, e]
  have : p.depth = 0 := by have := h.2; omega
  cases toPys ds <;> simp [SeqAt.shaped, PyData.canLay0, PyData.canLayAll0, PyData.depth, PyData.depthAll, h1, this]
theorem pyOk_flat_consT {d : D} (h : okN 0 d) (ds : List D) : pyOk (.tup (d :: ds)) = pyOk (.tup ds) := by
  obtain ⟨p, e, h1, h2⟩ := lay_py d h.1
  unfold pyOk
  simp only [toPy, toPys, e]
  have : p.depth = 0 := by have := h.2; omega
  cases toPys ds <;> simp [SeqAt.shaped, PyData.canLay0, PyData.canLayAll0, PyData.depth, PyData.depthAll, h1, this]
@[simp] theorem pyOk_lst_bl (b : Bool) (ds : List D) : pyOk (.lst (.bl b :: ds)) = pyOk (.lst ds) := pyOk_flat_cons (okN_bl b) ds
@[simp] theorem pyOk_lst_int (b : Int) (ds : List D) : pyOk (.lst (.int b :: ds)) = pyOk (.lst ds) := pyOk_flat_cons (okN_int b) ds
@[simp] theorem pyOk_lst_non (ds : List D) : pyOk (.lst (.non :: ds)) = pyOk (.lst ds) := pyOk_flat_cons okN_non ds
@[simp] theorem pyOk_tup_bl (b : Bool) (ds : List D) : pyOk (.tup (.bl b :: ds)) = pyOk (.tup ds) := pyOk_flat_consT (okN_bl b) ds
@[simp] theorem pyOk_tup_int (b : Int) (ds : List D) : pyOk (.tup (.int b :: ds)) = pyOk (.tup ds) := pyOk_flat_consT (okN_int b) ds
@[simp] theorem pyOk_tup_non (ds : List D) : pyOk (.tup (.non :: ds)) = pyOk (.tup ds) := pyOk_flat_consT okN_non ds
theorem eqvAll_cons (p q : PyData) (ps qs : List PyData) : PyData.eqv (.list (p :: ps)) (.list (q :: qs)) = (PyData.eqv p q && PyData.eqv (.list ps) (.list qs)) := by
  simp [PyData.eqv, PyData.eqvAll]
@[simp] theorem deq_lst_nil : deq (.lst []) (.lst []) = true := rfl
@[simp] theorem deq_tup_nil : deq (.tup []) (.tup []) = true := rfl
@[simp] theorem deq_lst_cons (a b : D) (as bs : List D) : deq (.lst (a :: as)) (.lst (b :: bs)) = (deq a b && deq (.lst as) (.lst bs)) := by
  unfold deq
  simp only [toPy, toPys]
  cases toPy a <;> cases toPy b <;> cases toPys as <;> cases toPys bs <;> simp [PyData.eqv, PyData.eqvAll]
@[simp] theorem deq_tup_cons (a b : D) (as bs : List D) : deq (.tup (a :: as)) (.tup (b :: bs)) = (deq a b && deq (.tup as) (.tup bs)) := by
  unfold deq
  simp only [toPy, toPys]
  cases toPy a <;> cases toPy b <;> cases toPys as <;> cases toPys bs <;> simp [PyData.eqv, PyData.eqvAll]
@[simp] theorem deq_lst_nc (b : D) (bs : List D) : deq (.lst []) (.lst (b :: bs)) = false := by
  unfold deq
  simp only [toPy, toPys]
  cases toPy b <;> cases toPys bs <;> simp [PyData.eqv, PyData.eqvAll]
@[simp] theorem deq_lst_cn (b : D) (bs : List D) : deq (.lst (b :: bs)) (.lst []) = false := by
  unfold deq
  simp only [toPy, toPys]
  cases toPy b <;> cases toPys bs <;> simp [PyData.eqv, PyData.eqvAll]
@[simp] theorem deq_tup_nc (b : D) (bs : List D) : deq (.tup []) (.tup (b :: bs)) = false := by
  unfold deq
  simp only [toPy, toPys]
  cases toPy b <;> cases toPys bs <;> simp [PyData.eqv, PyData.eqvAll]
@[simp] theorem deq_tup_cn (b : D) (bs : List D) : deq (.tup (b :: bs)) (.tup []) = false := by
  unfold deq
  simp only [toPy, toPys]
  cases toPy b <;> cases toPys bs <;> simp [PyData.eqv, PyData.eqvAll]
theorem deq_map {α : Type} [DecidableEq α] {f : α → D} (hf : ∀ a b, deq (f a) (f b) = decide (a = b)) : ∀ xs ys : List α, deq (.lst (xs.map f)) (.lst (ys.map f)) = decide (xs = ys)
  | [], [] => rfl
  | [], _ :: _ => by simp
  | _ :: _, [] => by simp
  | x :: xs, y :: ys => by
    rw [List.map_cons, List.map_cons, deq_lst_cons, hf, deq_map hf xs ys]
    by_cases h1 : x = y <;> by_cases h2 : xs = ys <;> simp [h1, h2]
theorem deq_mapT {α : Type} [DecidableEq α] {f : α → D} (hf : ∀ a b, deq (f a) (f b) = decide (a = b)) : ∀ xs ys : List α, deq (.tup (xs.map f)) (.tup (ys.map f)) = decide (xs = ys)
  | [], [] => rfl
  | [], _ :: _ => by simp
  | _ :: _, [] => by simp
  | x :: xs, y :: ys => by
    rw [List.map_cons, List.map_cons, deq_tup_cons, hf, deq_mapT hf xs ys]
    by_cases h1 : x = y <;> by_cases h2 : xs = ys <;> simp [h1, h2]
theorem deq_str (a b : PySem.Str) : deq (.str a) (.str b) = decide (a = b) := by
  simp [deq, toPy, PyData.eqv]; by_cases h : a = b <;> simp [h]
theorem dNe_of {a b : D} (ha : pyOk a = true) (hb : pyOk b = true) : dNe a b = .ok (.cl (.bl (!deq a b))) := by simp [dNe, ha, hb]
theorem dEq_of {a b : D} (ha : pyOk a = true) (hb : pyOk b = true) : dEq a b = .ok (.cl (.bl (deq a b))) := by simp [dEq, ha, hb]
theorem dNe_str {a b : PySem.Str} (ha : PyData.strOk a = true) (hb : PyData.strOk b = true) : dNe (.str a) (.str b) = .ok (.cl (.bl (!decide (a = b)))) := by
  rw [dNe_of (pyOk_str ha) (pyOk_str hb), deq_str]
theorem dEq_str {a b : PySem.Str} (ha : PyData.strOk a = true) (hb : PyData.strOk b = true) : dEq (.str a) (.str b) = .ok (.cl (.bl (decide (a = b)))) := by
  rw [dEq_of (pyOk_str ha) (pyOk_str hb), deq_str]
/-! ### count, index -/
@[simp] theorem dCount_lst (l : List D) (y : D) : dCount (.lst l) y = if pyOk (.lst l) && pyOk y then cI (l.countP fun z => deq z y : Nat) else .st := rfl
def kIndex : Option Nat → Out R
  | some j => cI (j : Nat)
  | none => .st
@[simp] theorem kIndex_some (j : Nat) : kIndex (some j) = .ok (.cl (.int (j : Nat))) := rfl
@[simp] theorem dIndex_lst (l : List D) (y : D) : dIndex (.lst l) y = if pyOk (.lst l) && pyOk y then kIndex (l.findIdx? fun z => deq z y) else .st := by
  unfold dIndex kIndex
  all_goals (try dsimp only)
  all_goals (try (generalize List.findIdx? _ l = o; cases o <;> rfl))
theorem find_ints (k : Int) : ∀ xs : List Int, (xs.map D.int).findIdx? (fun z => deq z (.int k)) = if k ∈ xs then some (xs.idxOf k) else none
  | [] => by simp
  | x :: r => by
    have ih := find_ints k r
    rw [List.map_cons, List.findIdx?_cons, deq_int]
    by_cases c : x = k
    · subst c
      simp
    · have c' : ¬ k = x := fun z => c z.symm
      have cb : (x == k) = false := beq_eq_false_iff_ne.mpr c
      rw [ih]
      by_cases m : k ∈ r
      · simp [m, List.idxOf_cons, cb, c]
      · simp [m, c', c]
theorem dIndexT_ints (xs : List Int) (k : Int) : dIndexT (.tup (xs.map D.int)) (.int k) = if k ∈ xs then .ok (.cl (.int (xs.idxOf k : Nat))) else .st := by
  show (if (pyOk (.tup (xs.map D.int)) && pyOk (.int k)) = true then (match (xs.map D.int).findIdx? (fun z => deq z (.int k)) with
    | some j => cI (j : Nat)
    | none => .st) else .st) = _
  rw [(okN_ints xs).py, (okN_int k).py, find_ints]
  by_cases m : k ∈ xs
  · simp [m, cI]
  · simp [m]
/-! ### all, any of what is written out -/
def kAll (o : Option (List Bool)) : Out R := match o with
  | some bs => .ok (.cl (.bl (bs.all id)))
  | none => .st
def kAny (o : Option (List Bool)) : Out R := match o with
  | some bs => .ok (.cl (.bl (bs.any id)))
  | none => .st
@[simp] theorem kAll_some (bs : List Bool) : kAll (some bs) = .ok (.cl (.bl (bs.all id))) := rfl
@[simp] theorem kAny_some (bs : List Bool) : kAny (some bs) = .ok (.cl (.bl (bs.any id))) := rfl
@[simp low] theorem dAll_lst (l : List D) : dAll (.lst l) = kAll (blsOf l) := by
  unfold dAll kAll
  all_goals (try dsimp only)
  all_goals (try (generalize blsOf l = o; cases o <;> rfl))
@[simp low] theorem dAny_lst (l : List D) : dAny (.lst l) = kAny (blsOf l) := by
  unfold dAny kAny
  all_goals (try dsimp only)
  all_goals (try (generalize blsOf l = o; cases o <;> rfl))
@[simp] theorem blsOf_nil : blsOf [] = some [] := rfl
@[simp] theorem blsOf_bl (b : Bool) (l : List D) : blsOf (.bl b :: l) = (blsOf l).map (b :: ·) := by
  show blsOf (.bl b :: l) = _
  conv => lhs; unfold blsOf
  all_goals (try dsimp only)
  all_goals (try (cases blsOf l <;> rfl))
theorem atI_lastI {xs : List Int} (h : 0 < xs.length) : atI (xs.map D.int) (-1) = some (.int (xs.getD (xs.length - 1) 0)) := by
  rw [atI_neg (by omega) (by simp; omega), List.length_map]
  have e : ((-1 : Int) + (xs.length : Int)).toNat = xs.length - 1 := by omega
  rw [e, List.getElem?_map, List.getD_eq_getElem?_getD, List.getElem?_eq_getElem (by omega)]
  rfl
/-! ### the least of tuples -/
theorem dMinT_map {nss : List (List Int)} (h : 0 < nss.length) : dMinT (.lst (nss.map fun ns => D.tup (ns.map D.int))) = .ok (.cl (.tup ((nss.getD (leastAt nss) []).map D.int))) := by
  unfold dMinT
  simp only [tupsOf_map]
  exact if_pos h
@[simp] theorem dMinT2_ints (ns ms : List Int) : dMinT2 (.tup (ns.map D.int)) (.tup (ms.map D.int)) = .ok (.cl (.tup ((if HT.lexLt ms ns = true then ms else ns).map D.int))) := by
  unfold dMinT2
  simp only [intsOf_map]
  rfl
/-! ### places of what is written out -/
@[simp] theorem atI_0 {α : Type} (x : α) (l : List α) : atI (x :: l) 0 = some x := by
  rw [atI_pos (by omega) (by simp only [List.length_cons]; omega)]; rfl
@[simp] theorem atI_1 {α : Type} (x y : α) (l : List α) : atI (x :: y :: l) 1 = some y := by
  rw [atI_pos (by omega) (by simp only [List.length_cons]; omega)]; rfl
@[simp] theorem atI_2 {α : Type} (x y z : α) (l : List α) : atI (x :: y :: z :: l) 2 = some z := by
  rw [atI_pos (by omega) (by simp only [List.length_cons]; omega)]; rfl
@[simp] theorem atI_3 {α : Type} (x y z u : α) (l : List α) : atI (x :: y :: z :: u :: l) 3 = some u := by
  rw [atI_pos (by omega) (by simp only [List.length_cons]; omega)]; rfl
/-! ### dicts with whole numbers as keys, locked or not -/
theorem keysZ_enc {β : Type} (j : β → D) (m : List (Int × β)) : keysZ (m.map (encM j)) = (m.map (·.1)).map D.int := by
  unfold keysZ
  rw [List.map_map, List.map_map]
  rfl
theorem valsZ_enc {β : Type} (j : β → D) (m : List (Int × β)) : valsZ (m.map (encM j)) = (m.map (·.2)).map j := by
  unfold valsZ
  rw [List.map_map, List.map_map]
  rfl
theorem dIx_dct {β : Type} (j : β → D) (m : List (Int × β)) (k : Int) : dIx (.dct (m.map (encM j))) (.int k) = oO ((lookM m k).map j) := by
  rw [← look_enc]; rfl
theorem dIx_dcz {β : Type} (j : β → D) (m : List (Int × β)) (k : Int) : dIx (.dcz (m.map (encM j))) (.int k) = oO ((lookM m k).map j) := by
  rw [← look_enc]; rfl
theorem kGet_enc {β : Type} (j : β → D) (m : List (Int × β)) (k : Int) (z : D) : kGet (m.map (encM j)) (.int k) z = .ok (.cl (((lookM m k).map j).getD z)) := by
  rw [← look_enc]; rfl
theorem kGet_encI (m : List (Int × Int)) (k z : Int) : kGet (m.map (encM D.int)) (.int k) (.int z) = .ok (.cl (.int ((lookM m k).getD z))) := by
  rw [kGet_enc]
  cases lookM m k <;> rfl
theorem dLookSc_enc (m : List (Int × Int)) (k v : Int) : dLookSc (m.map (encM D.int)) (.inl k) (.int v) = decide (lookM m k = some v) := by
  unfold dLookSc
  rw [look_enc]
  cases lookM m k with
  | none => rfl
  | some u =>
    show decide (u = v) = _
    rw [Bool.eq_iff_iff, decide_eq_true_iff, decide_eq_true_iff]
    exact ⟨fun h => by rw [h], fun h => Option.some.inj h⟩
theorem sameK_enc (m n : List (Int × Int)) (hl : m.length = n.length) (h : ∀ p ∈ m, lookM n p.1 = some p.2) : sameK (m.map (encM D.int)) (n.map (encM D.int)) = true := by
  unfold sameK
  rw [Bool.and_eq_true, decide_eq_true_iff, List.length_map, List.length_map]
  refine ⟨hl, List.all_eq_true.mpr fun q hq => ?_⟩
  obtain ⟨p, hp, rfl⟩ := List.mem_map.mp hq
  show dLookSc _ (.inl p.1) (.int p.2) = true
  rw [dLookSc_enc, decide_eq_true_iff]
  exact h p hp
theorem dEqK_enc {m n : List (Int × Int)} (hl : m.length = n.length) (h : ∀ p ∈ m, lookM n p.1 = some p.2) : dEqK (.dct (m.map (encM D.int))) (.dct (n.map (encM D.int))) = .ok (.cl (.bl true)) := if_pos (sameK_enc m n hl h)
theorem dNeK_enc {m n : List (Int × Int)} (hl : m.length = n.length) (h : ∀ p ∈ m, lookM n p.1 = some p.2) : dNeK (.dct (m.map (encM D.int))) (.dct (n.map (encM D.int))) = .ok (.cl (.bl false)) := if_pos (sameK_enc m n hl h)
theorem dSortRows_map {nss : List (List Int)} (h : ∀ ns ∈ nss, ns ≠ []) : dSortRows (.lst (nss.map fun ns => D.tup (ns.map D.int))) = .ok (.ow (.lst ((sortT nss).map fun ns => D.tup (ns.map D.int)))) := by
  have c : nss.all (fun ns => !ns.isEmpty) = true := List.all_eq_true.mpr fun ns hn => by
    have := h ns hn
    cases ns with
    | nil => exact absurd rfl this
    | cons => rfl
  unfold dSortRows
  simp only [tupsOf_map]
  exact if_pos c
/-! ### zip -/
def prI (p : Int × Int) : D := .tup [.int p.1, .int p.2]
theorem zipD_ints : ∀ xs ys : List Int, zipD (xs.map D.int) (ys.map D.int) = (xs.zip ys).map prI
  | [], _ => by simp [zipD]
  | _ :: _, [] => by simp [zipD]
  | x :: xs, y :: ys => by
    have := zipD_ints xs ys
    unfold zipD at this ⊢
    rw [List.map_cons, List.map_cons, List.zipWith_cons_cons, this]
    rfl
theorem comp_two {β : Type} (i k : Nat) (c : Tx) (f : Sx) (u v : β → D) (env : Env) : ∀ xs : List β, compF (.many [i, k]) c f (xs.map fun p => D.tup [u p, v p]) env = cmpO (fun p => c ((env.set i (.sh (u p))).set k (.sh (v p)))) (fun p => f ((env.set i (.sh (u p))).set k (.sh (v p)))) xs
  | [] => by unfold compF cmpO; rfl
  | x :: xs => by
    rw [List.map_cons]
    unfold compF cmpO
    rw [comp_two i k c f u v env xs]
    have e : bindT (.many [i, k]) (D.tup [u x, v x]) env = some ((env.set i (.sh (u x))).set k (.sh (v x))) := by
      rw [bind_many, if_pos (by rfl)]
      simp
    rw [e]
    all_goals rfl
@[simp] theorem compF_prI (i k : Nat) (c : Tx) (f : Sx) (env : Env) (xs : List (Int × Int)) : compF (.many [i, k]) c f (xs.map prI) env = cmpO (fun p : Int × Int => c ((env.set i (.sh (.int p.1))).set k (.sh (.int p.2)))) (fun p : Int × Int => f ((env.set i (.sh (.int p.1))).set k (.sh (.int p.2)))) xs := comp_two i k c f (fun p : Int × Int => D.int p.1) (fun p : Int × Int => D.int p.2) env xs
theorem bind_prI (i k : Nat) (p : Int × Int) (e : Env) : bindT (.many [i, k]) (prI p) e = some ((e.set i (.sh (.int p.1))).set k (.sh (.int p.2))) := by
  unfold prI
  rw [bind_many, if_pos (by rfl)]
  simp
@[simp] theorem dNeA_dct (kvs : List (Key × D)) (l : List D) : dNeA (.dct kvs) (.lst l) = .ok (.cl (.bl true)) := rfl
theorem dNeA_of {a b : D} (h : pyOk a = true) : dNeA a b = dNe a b := by
  cases a
  case dct l => exact absurd (show false = true from h) Bool.false_ne_true
  all_goals rfl
end Fs

set_option maxHeartbeats 1000000
namespace Fl
open PySem PySem.Spec L2 Fs
noncomputable section
def exL : List String := ["NoText"]
def exSub (c : String) : Option Bool := exTab exL c "SetError"
@[simp] theorem exSub_NoText : exSub "NoText" = some true := by decide +kernel
@[simp] theorem exTab_NoText_NoDeed : exTab exL "NoText" "NoDeed" = some false := by decide +kernel
@[simp] theorem exTab_NoText_NoNumber : exTab exL "NoText" "NoNumber" = some false := by decide +kernel
@[simp] theorem exTab_NoText_NoRound : exTab exL "NoText" "NoRound" = some false := by decide +kernel
@[simp] theorem exTab_NoText_NoRow : exTab exL "NoText" "NoRow" = some false := by decide +kernel
@[simp] theorem exTab_NoText_NoSet : exTab exL "NoText" "NoSet" = some false := by decide +kernel
@[simp] theorem exTab_NoText_NoSum : exTab exL "NoText" "NoSum" = some false := by decide +kernel
@[simp] theorem exTab_NoText_NoText : exTab exL "NoText" "NoText" = some true := by decide +kernel
@[simp] theorem exTab_NoText_SetError : exTab exL "NoText" "SetError" = some true := by decide +kernel
@[simp] theorem exTab_NoText_TooMany : exTab exL "NoText" "TooMany" = some false := by decide +kernel
@[simp] theorem exTab_NoText_ValueError : exTab exL "NoText" "ValueError" = some true := by decide +kernel
def g_is_whole : List D → Out R := gFun 1 ((sRet (eAnd (e1 (dIsa "int") (eVar 0)) (eNot (e1 (dIsa "bool") (eVar 0))))))
def g_is_set : List D → Out R := gFun 3 ((sSeq (sIf (tOrF (tNotF (tB (e1 (dIsa "tuple") (eVar 0)))) (tNotF (tB (e1 dAll (eComp (iSeq (eVar 0)) (.one 1) (fun _ => .ok true) (eCall g_is_whole [(eVar 1)]) [1]))))) (sRet (eC (.bl false))) sSkip)
  (sRet (e1 dAll (eComp (iRange1 [(e2 dSub (e1 dLen (eVar 0)) (eC (.int 1)))]) (.one 2) (fun _ => .ok true) (e2 dLt (e2 dIx (eVar 0) (eVar 2)) (e2 dIx (eVar 0) (e2 dAdd (eVar 2) (eC (.int 1))))) [2])))))
def g_is_row : List D → Out R := gFun 2 ((sSeq (sIf (tOrF (tNotF (tB (e1 (dIsa "tuple") (eVar 0)))) (tOrF (tB (e2 dNe (e1 dLen (eVar 0)) (eC (.int 3)))) (tNotF (tB (e1 dAll (eComp (iSeq (eVar 0)) (.one 1) (fun _ => .ok true) (eCall g_is_whole [(eVar 1)]) [1])))))) (sRet (eC (.bl false))) sSkip)
  (sRet (eAnd (e2 dGe (e2 dIx (eVar 0) (eC (.int 1))) (eC (.int 1))) (e2 dGe (e2 dIx (eVar 0) (eC (.int 2))) (eC (.int 1)))))))
def g_is_number : List D → Out R := gFun 2 ((sSeq (sIf (tOrF (tB (e2 dEq (eVar 0) (eC (.str "")))) (tB (e2 dGt (e1 dLen (eVar 0)) (eC (.int 60))))) (sRet (eC (.bl false))) sSkip)
  (sSeq (sFor (iSeq (eVar 0)) (.one 1) (sIf (tB (e2 dNotIn (eVar 1) (eC (.str "0123456789")))) (sRet (eC (.bl false))) sSkip))
  (sRet (eOr (e2 dEq (eVar 0) (eC (.str "0"))) (e2 dNe (e2 dIx (eVar 0) (eC (.int 0))) (eC (.str "0"))))))))
def g_whole_in : List D → Out R := gFun 2 ((sSeq (sSet 1 (eVar 0))
  (sSeq (sIf (tB (e2 dEq (eCut (eVar 0) none (some (eC (.int 1)))) (eC (.str "-")))) (sSet 1 (eCut (eVar 0) (some (eC (.int 1))) none)) sSkip)
  (sSeq (sIf (tOrF (tNotF (tB (eCall g_is_number [(eVar 1)]))) (tB (e2 dEq (eVar 0) (eC (.str "-0"))))) (sRaise "NoText") sSkip)
  (sRet (e1 dIntS (eVar 0)))))))
def g_check_text : List D → Out R := gFun 1 ((sIf (tNotF (tB (e1 (dIsa "str") (eVar 0)))) (sRaise "NoText") sSkip))
def g_read_set : List D → Out R := gFun 3 ((sSeq (sDrop (eCall g_check_text [(eVar 0)]))
  (sSeq (sIf (tB (e2 dEq (eVar 0) (eC (.str "-")))) (sRet (eTup [])) sSkip)
  (sSeq (sSet 1 (e1 dTuple (eCompX (iSeq (eM isS dSplit (eVar 0) (eC (.str " ")))) (.one 2) (fun _ => .ok true) (eCall g_whole_in [(eVar 2)]) [2])))
  (sSeq (sIf (tOrF (tNotF (tB (eCall g_is_set [(eVar 1)]))) (tB (e2 dGt (e1 dLen (eVar 1)) (eC (.int 60))))) (sRaise "NoText") sSkip)
  (sRetV 1))))))
def g_read_row : List D → Out R := gFun 3 ((sSeq (sDrop (eCall g_check_text [(eVar 0)]))
  (sSeq (sSet 1 (e1 dTuple (eCompX (iSeq (eM isS dSplit (eVar 0) (eC (.str ":")))) (.one 2) (fun _ => .ok true) (eCall g_whole_in [(eVar 2)]) [2])))
  (sSeq (sIf (tNotF (tB (eCall g_is_row [(eVar 1)]))) (sRaise "NoText") sSkip)
  (sRetV 1)))))
def g__law_draw : List D → Out R := gFun 6 ((sSeq (sIf (tB (e2 dGe (eVar 0) (e2 dPow (eC (.int 10)) (eC (.int 18))))) (sSeq (sSet 3 (eVar 0))
  (sSeq (sFor (iRange1 [(eVar 1)]) (.one 4) (sSet 3 (e2 dDiv (eVar 3) (eVar 2))))
  (sRet (e2 dMod (eVar 3) (eVar 2))))) sSkip)
  (sSeq (sSet 5 (e2 dMod (e2 dMul (e2 dAdd (e2 dAdd (e2 dMod (eVar 0) (eC (.int 1000000007))) (e2 dMul (eC (.int 1009)) (eVar 1))) (eC (.int 17))) (eC (.int 69621))) (eC (.int 2147483647))))
  (sSeq (sSet 5 (e2 dMod (e2 dAdd (e2 dAdd (e2 dMul (eVar 5) (eVar 5)) (e2 dMul (eC (.int 40503)) (eVar 1))) (eC (.int 5))) (eC (.int 2147483629))))
  (sRet (e2 dMod (e2 dDiv (e2 dMod (e2 dMul (eVar 5) (eC (.int 48271))) (eC (.int 2147483647))) (eC (.int 32))) (eVar 2)))))))
def g__law_kinds : String → Out R := gE 3 exSub (fun c a => (sSeq (sSet 1 (eLst [(eExc 0 a (oSome (exTab exL c "NoSet"))), (eExc 0 a (oSome (exTab exL c "NoNumber"))), (eExc 0 a (oSome (exTab exL c "NoSum"))), (eExc 0 a (oSome (exTab exL c "NoRow")))]))
  (sSeq (sSet 1 (e2 dAdd (eVar 1) (eLst [(eExc 0 a (oSome (exTab exL c "TooMany"))), (eExc 0 a (oSome (exTab exL c "NoText"))), (eExc 0 a (oSome (exTab exL c "NoDeed"))), (eExc 0 a (oSome (exTab exL c "NoRound")))])))
  (sSeq (sSet 2 (eLst [(eC (.str "set")), (eC (.str "number")), (eC (.str "sum")), (eC (.str "row")), (eC (.str "many")), (eC (.str "text")), (eC (.str "deed")), (eC (.str "round"))]))
  (sSeq (sIf (tOrF (tB (e2 dNe (eM isL dCount (eVar 1) (eC (.bl true))) (eC (.int 1)))) (tNotF (tB (eExc 0 a (oSome (exTab exL c "ValueError")))))) (sRet (eC (.str "odd"))) sSkip)
  (sRet (e2 dIx (eVar 2) (eM isL dIndex (eVar 1) (eC (.bl true))))))))))
def g__law_said : List D → Out R := gFun 3 ((sSeq (sTry 2 exSub (sIf (tB (e2 dEq (eVar 0) (eC (.int 0)))) (sDrop (eCall g_read_set [(eVar 1)])) (sDrop (eCall g_read_row [(eVar 1)]))) (fun c a => (sRet (eExc 2 a (g__law_kinds c)))))
  (sRet (eC (.str "told")))))
def g__law_no_sets : List D → Out R := gFun 2 ((sSeq (sSet 1 (eLst [(eC (.str "")), (eC (.str " ")), (eC (.str "--")), (eC (.str "- ")), (eC (.str " -")), (eC (.str "- 1")), (eC (.str "1 -")), (eC (.str "+1")), (eC (.str "01")), (eC (.str "-0")), (eC (.str "1.0")), (eC (.str "1,2"))]))
  (sSeq (sSet 1 (e2 dAdd (eVar 1) (eLst [(eC (.str "1 1")), (eC (.str "2 1")), (eC (.str "1  2")), (eC (.str " 1")), (eC (.str "1 ")), (eC (.str "1 2 2")), (eC (.str "1 -2")), (eC (.str "a")), (eC (.str "1;2")), (eC (.str "(1 2)"))])))
  (sSeq (sSet 1 (e2 dAdd (eVar 1) (eLst [(eC (.str "1/2")), (e2 dAdd (eVar 0) (eC (.str " 0"))), (e2 dAdd (eVar 0) (eC (.str "\n"))), (e2 dAdd (e2 dAdd (eC (.str "0 ")) (eVar 0)) (eC (.str "x")))])))
  (sRet (e2 dAdd (eVar 1) (eLst [(e2 dMulS (eC (.str "1")) (eC (.int 61)))])))))))
def g__law_no_rows : List D → Out R := gFun 2 ((sSeq (sSet 1 (eLst [(eC (.str "")), (eC (.str ":")), (eC (.str "::")), (eC (.str "1")), (eC (.str "1:2")), (eC (.str "1:2:3:4")), (eC (.str "0:0:1")), (eC (.str "0:-1:1")), (eC (.str "0:1:0"))]))
  (sSeq (sSet 1 (e2 dAdd (eVar 1) (eLst [(eC (.str "0:1:-1")), (eC (.str "0:1: 1")), (eC (.str " 0:1:1")), (eC (.str "0:1:1 ")), (eC (.str "00:1:1")), (eC (.str "-0:1:1")), (eC (.str "0:01:1"))])))
  (sSeq (sSet 1 (e2 dAdd (eVar 1) (eLst [(eC (.str "+0:1:1")), (eC (.str "0;1;1")), (eC (.str "0 1 1")), (eC (.str "a:1:1")), (eC (.str "0:b:1")), (eC (.str "0:1:c")), (eC (.str "-"))])))
  (sSeq (sSet 1 (e2 dAdd (eVar 1) (eLst [(e2 dAdd (eC (.str "0:1:")) (e2 dMulS (eC (.str "1")) (eC (.int 61)))), (e2 dAdd (eVar 0) (eC (.str ":1"))), (e2 dAdd (eVar 0) (eC (.str "\n")))])))
  (sRet (e2 dAdd (eVar 1) (eLst [(e2 dAdd (eVar 0) (eC (.str ",2")))]))))))))
def g_law : List D → Out R := gFun 11 ((sSeq (sFor (iSeq (e2 dAdd (eCut (eVar 0) none (some (eC (.int 20)))) (eLst [(eC (.int 0)), (eC (.int 9))]))) (.one 1) (sSeq (sSet 2 (e1 dStr (e2 dAdd (eC (.int 1)) (eCall g__law_draw [(eVar 1), (eC (.int 1)), (e2 dPow (eC (.int 10)) (eC (.int 6)))]))))
  (sSeq (sSet 3 (eLst [(eVar 2), (e2 dAdd (e2 dAdd (eC (.str "-3:")) (eVar 2)) (eC (.str ":7")))]))
  (sSeq (sSet 4 (eLst [(eCall g__law_no_sets [(eVar 2)]), (eCall g__law_no_rows [(e2 dIx (eVar 3) (eC (.int 1)))])]))
  (sFor (iRange1 [(eC (.int 2))]) (.one 5) (sSeq (sSet 6 (e2 dIx (e2 dIx (eVar 4) (eVar 5)) (eCall g__law_draw [(eVar 1), (e2 dAdd (eC (.int 2)) (eVar 5)), (e1 dLen (e2 dIx (eVar 4) (eVar 5)))])))
  (sSeq (sSet 7 (e2 dIx (eLst [(eC .non), (eC (.int 5)), (eC (.bl true)), (eLst [(eC (.str "1"))]), (eTup [(eC (.str "1"))]), (eTup []), (fun _ => .ok (.ow (.dct [])))]) (eCall g__law_draw [(eVar 1), (eC (.int 4)), (eC (.int 7))])))
  (sIf (tOrF (tB (e2 dNe (eCall g__law_said [(eVar 5), (eVar 6)]) (eC (.str "text")))) (tOrF (tB (e2 dNe (eCall g__law_said [(eVar 5), (eVar 7)]) (eC (.str "text")))) (tB (e2 dNe (eCall g__law_said [(eVar 5), (e2 dIx (eVar 3) (eVar 5))]) (eC (.str "told")))))) (sRet (eC (.bl false))) sSkip))))))))
  (sSeq (sSet 8 (eComp (iSeq (eTup [(eC (.str "1\n2")), (eC (.str "1	2")), (eC (.str "1 2\n3")), (eC (.str "-\n"))])) (.one 6) (fun _ => .ok true) (eCall g__law_said [(eC (.int 0)), (eVar 6)]) [6]))
  (sSeq (sIf (tB (e2 dNe (e2 dAdd (eVar 8) (eComp (iSeq (eTup [(eC (.str "0:1\n1")), (eC (.str "0	1:1")), (eC (.str "0:1:1\n"))])) (.one 6) (fun _ => .ok true) (eCall g__law_said [(eC (.int 1)), (eVar 6)]) [6])) (e2 dMul (eLst [(eC (.str "text"))]) (eC (.int 7))))) (sRet (eC (.bl false))) sSkip)
  (sSeq (sSet 9 (eM isS dJoin (eC (.str " ")) (eComp (iRange1 [(eC (.int 61))]) (.one 10) (fun _ => .ok true) (e1 dStr (eVar 10)) [10])))
  (sRet (eAnd (e2 dEq (eCall g__law_said [(eC (.int 0)), (eVar 9)]) (eC (.str "text"))) (eAnd (e2 dEq (eCall g__law_said [(eC (.int 0)), (eCut (eVar 9) none (some (e1 dNeg (eC (.int 3)))))]) (eC (.str "told"))) (e2 dEq (eCall g__law_said [(eC (.int 1)), (eC (.str "0:1:61"))]) (eC (.str "told")))))))))))
end
end Fl

namespace Fl
open Fs
theorem is_whole_eq (d : D) : g_is_whole [d] = .ok (.cl (.bl (isI d))) := by
  cases d <;> simp [g_is_whole, isI]
theorem is_whole_int (i : Int) : g_is_whole [.int i] = .ok (.cl (.bl true)) := is_whole_eq _
end Fl

namespace Fl
open Fs
theorem is_set_ints {xs : List Int} (hl : xs.length ≤ 100000) : g_is_set [.tup (xs.map D.int)] = .ok (.cl (.bl (decide (xs.Pairwise (· < ·))))) := by
  simp (disch := first | omega | decide +kernel | (simp only [List.length_map, List.length_append, List.length_cons, List.length_nil, List.length_range, List.length_take, List.length_drop, List.length_reverse]; omega)) [-List.map_map, -List.map_set, -List.map_replicate, -List.getD_eq_getElem?_getD, -List.map_append, -List.append_assoc, -List.map_take, -List.map_drop, -List.map_reverse, dDiv_pos, dMod_pos, take_mapD, drop_mapD, rev_mapD, decide_eq_true, decide_eq_false, g_is_set, is_whole_int, smallI_of]
  rw [cmpO_bls (fun i : Nat => decide (xs.getD i 0 < xs.getD (i + 1) 0)) (fun i hi => by
    have hi := List.mem_range.mp hi
    simp (disch := first | omega | decide +kernel | (simp only [List.length_map, List.length_append, List.length_cons, List.length_nil, List.length_range, List.length_take, List.length_drop, List.length_reverse]; omega)) [-List.map_map, -List.map_set, -List.map_replicate, -List.getD_eq_getElem?_getD, -List.map_append, -List.append_assoc, -List.map_take, -List.map_drop, -List.map_reverse, dDiv_pos, dMod_pos, take_mapD, drop_mapD, rev_mapD, decide_eq_true, decide_eq_false, atI_ints])]
  simp
  rw [Bool.eq_iff_iff]
  simp only [List.all_eq_true, decide_eq_true_eq, List.mem_range]
  rw [up_adj]
  simp only [List.getD_eq_getElem?_getD]
  constructor
  · intro h i hi
    exact h i (by omega)
  · intro h i hi
    exact h i (by omega)
theorem is_set_up {xs : List Int} (h : xs.Pairwise (· < ·)) (hl : xs.length ≤ 100000) : g_is_set [.tup (xs.map D.int)] = .ok (.cl (.bl true)) := by
  rw [is_set_ints hl, decide_eq_true h]
/-- is_set of anything -/
theorem is_set_eq (d : D) (h : ∀ ds, d = .tup ds → ds.length ≤ 100000) : g_is_set [d] = .ok (.cl (.bl (isSetB d))) := by
  cases d
  case tup ds =>
    cases e : ds.all isI with
    | true =>
      obtain ⟨xs, rfl⟩ := all_isI e
      rw [isSetB_ints]
      exact is_set_ints (by simpa using h _ rfl)
    | false =>
      have e2 : isSetB (.tup ds) = false := by
        show (match intsOf ds with | some xs => decide (xs.Pairwise (· < ·)) | none => false) = false
        rw [not_isI e]
      rw [e2]
      simp (disch := first | omega | decide +kernel | (simp only [List.length_map, List.length_append, List.length_cons, List.length_nil, List.length_range, List.length_take, List.length_drop, List.length_reverse]; omega)) [-List.map_map, -List.map_set, -List.map_replicate, -List.getD_eq_getElem?_getD, -List.map_append, -List.append_assoc, -List.map_take, -List.map_drop, -List.map_reverse, dDiv_pos, dMod_pos, take_mapD, drop_mapD, rev_mapD, decide_eq_true, decide_eq_false, g_is_set, is_whole_eq]
      have e3 : (ds.all fun x => isI x) = false := e
      rw [e3]
      simp (disch := first | omega | decide +kernel | (simp only [List.length_map, List.length_append, List.length_cons, List.length_nil, List.length_range, List.length_take, List.length_drop, List.length_reverse]; omega)) [-List.map_map, -List.map_set, -List.map_replicate, -List.getD_eq_getElem?_getD, -List.map_append, -List.append_assoc, -List.map_take, -List.map_drop, -List.map_reverse, dDiv_pos, dMod_pos, take_mapD, drop_mapD, rev_mapD, decide_eq_true, decide_eq_false]
  all_goals simp (disch := first | omega | decide +kernel | (simp only [List.length_map, List.length_append, List.length_cons, List.length_nil, List.length_range, List.length_take, List.length_drop, List.length_reverse]; omega)) [-List.map_map, -List.map_set, -List.map_replicate, -List.getD_eq_getElem?_getD, -List.map_append, -List.append_assoc, -List.map_take, -List.map_drop, -List.map_reverse, dDiv_pos, dMod_pos, take_mapD, drop_mapD, rev_mapD, decide_eq_true, decide_eq_false, g_is_set, isSetB]
end Fl

namespace Fl
open Fs
def isRowB : D → Bool
  | .tup [.int _, .int b, .int c] => decide (1 ≤ b) && decide (1 ≤ c)
  | _ => false
theorem is_row_row (a b c : Int) : g_is_row [.tup [.int a, .int b, .int c]] = .ok (.cl (.bl (decide (1 ≤ b) && decide (1 ≤ c)))) := by
  have a1 : L2.atI [D.int a, D.int b, D.int c] 1 = some (.int b) := rfl
  have a2 : L2.atI [D.int a, D.int b, D.int c] 2 = some (.int c) := rfl
  simp (disch := first | omega | decide +kernel | (simp only [List.length_map, List.length_append, List.length_cons, List.length_nil, List.length_range, List.length_take, List.length_drop, List.length_reverse]; omega)) [-List.map_map, -List.map_set, -List.map_replicate, -List.getD_eq_getElem?_getD, -List.map_append, -List.append_assoc, -List.map_take, -List.map_drop, -List.map_reverse, dDiv_pos, dMod_pos, take_mapD, drop_mapD, rev_mapD, decide_eq_true, decide_eq_false, g_is_row, is_whole_eq, isI, a1, a2]
  by_cases h1 : 1 ≤ b <;> by_cases h2 : 1 ≤ c <;> simp (disch := first | omega | decide +kernel | (simp only [List.length_map, List.length_append, List.length_cons, List.length_nil, List.length_range, List.length_take, List.length_drop, List.length_reverse]; omega)) [-List.map_map, -List.map_set, -List.map_replicate, -List.getD_eq_getElem?_getD, -List.map_append, -List.append_assoc, -List.map_take, -List.map_drop, -List.map_reverse, dDiv_pos, dMod_pos, take_mapD, drop_mapD, rev_mapD, decide_eq_true, decide_eq_false, h1, h2, a2]
theorem isRowB_len {l : List D} (h : l.length ≠ 3) : isRowB (.tup l) = false := by
  unfold isRowB
  split
  · rename_i e
    cases e
    exact absurd rfl h
  · rfl
theorem is_row_eq (d : D) : g_is_row [d] = .ok (.cl (.bl (isRowB d))) := by
  cases d
  case tup ds =>
    rcases ds with _ | ⟨x, _ | ⟨y, _ | ⟨z, _ | ⟨w, r⟩⟩⟩⟩
    · simp (disch := first | omega | decide +kernel | (simp only [List.length_map, List.length_append, List.length_cons, List.length_nil, List.length_range, List.length_take, List.length_drop, List.length_reverse]; omega)) [-List.map_map, -List.map_set, -List.map_replicate, -List.getD_eq_getElem?_getD, -List.map_append, -List.append_assoc, -List.map_take, -List.map_drop, -List.map_reverse, dDiv_pos, dMod_pos, take_mapD, drop_mapD, rev_mapD, decide_eq_true, decide_eq_false, g_is_row, isRowB]
    · simp (disch := first | omega | decide +kernel | (simp only [List.length_map, List.length_append, List.length_cons, List.length_nil, List.length_range, List.length_take, List.length_drop, List.length_reverse]; omega)) [-List.map_map, -List.map_set, -List.map_replicate, -List.getD_eq_getElem?_getD, -List.map_append, -List.append_assoc, -List.map_take, -List.map_drop, -List.map_reverse, dDiv_pos, dMod_pos, take_mapD, drop_mapD, rev_mapD, decide_eq_true, decide_eq_false, g_is_row, isRowB_len (l := [x]) (by simp)]
    · simp (disch := first | omega | decide +kernel | (simp only [List.length_map, List.length_append, List.length_cons, List.length_nil, List.length_range, List.length_take, List.length_drop, List.length_reverse]; omega)) [-List.map_map, -List.map_set, -List.map_replicate, -List.getD_eq_getElem?_getD, -List.map_append, -List.append_assoc, -List.map_take, -List.map_drop, -List.map_reverse, dDiv_pos, dMod_pos, take_mapD, drop_mapD, rev_mapD, decide_eq_true, decide_eq_false, g_is_row, isRowB_len (l := [x, y]) (by simp)]
    · cases hx : isI x
      · have e : isRowB (.tup [x, y, z]) = false := by cases x <;> first | rfl | (cases hx; done)
        simp (disch := first | omega | decide +kernel | (simp only [List.length_map, List.length_append, List.length_cons, List.length_nil, List.length_range, List.length_take, List.length_drop, List.length_reverse]; omega)) [-List.map_map, -List.map_set, -List.map_replicate, -List.getD_eq_getElem?_getD, -List.map_append, -List.append_assoc, -List.map_take, -List.map_drop, -List.map_reverse, dDiv_pos, dMod_pos, take_mapD, drop_mapD, rev_mapD, decide_eq_true, decide_eq_false, g_is_row, is_whole_eq, hx, e]
      · cases hy : isI y
        · have e : isRowB (.tup [x, y, z]) = false := by cases y <;> first | (cases hy; done) | (cases x <;> rfl)
          simp (disch := first | omega | decide +kernel | (simp only [List.length_map, List.length_append, List.length_cons, List.length_nil, List.length_range, List.length_take, List.length_drop, List.length_reverse]; omega)) [-List.map_map, -List.map_set, -List.map_replicate, -List.getD_eq_getElem?_getD, -List.map_append, -List.append_assoc, -List.map_take, -List.map_drop, -List.map_reverse, dDiv_pos, dMod_pos, take_mapD, drop_mapD, rev_mapD, decide_eq_true, decide_eq_false, g_is_row, is_whole_eq, hx, hy, e]
        · cases hz : isI z
          · have e : isRowB (.tup [x, y, z]) = false := by cases z <;> first | (cases hz; done) | (cases x <;> cases y <;> rfl)
            simp (disch := first | omega | decide +kernel | (simp only [List.length_map, List.length_append, List.length_cons, List.length_nil, List.length_range, List.length_take, List.length_drop, List.length_reverse]; omega)) [-List.map_map, -List.map_set, -List.map_replicate, -List.getD_eq_getElem?_getD, -List.map_append, -List.append_assoc, -List.map_take, -List.map_drop, -List.map_reverse, dDiv_pos, dMod_pos, take_mapD, drop_mapD, rev_mapD, decide_eq_true, decide_eq_false, g_is_row, is_whole_eq, hx, hy, hz, e]
          · cases x <;> first | (cases hx; done) | skip
            cases y <;> first | (cases hy; done) | skip
            cases z <;> first | (cases hz; done) | skip
            exact is_row_row _ _ _
    · have hz : ¬ ((r.length : Int) + 1 + 1 + 1 + 1 = 3) := by omega
      simp (disch := first | omega | decide +kernel | (simp only [List.length_map, List.length_append, List.length_cons, List.length_nil, List.length_range, List.length_take, List.length_drop, List.length_reverse]; omega)) [-List.map_map, -List.map_set, -List.map_replicate, -List.getD_eq_getElem?_getD, -List.map_append, -List.append_assoc, -List.map_take, -List.map_drop, -List.map_reverse, dDiv_pos, dMod_pos, take_mapD, drop_mapD, rev_mapD, decide_eq_true, decide_eq_false, g_is_row, isRowB_len (l := x :: y :: z :: w :: r) (by simp), hz]
  all_goals simp (disch := first | omega | decide +kernel | (simp only [List.length_map, List.length_append, List.length_cons, List.length_nil, List.length_range, List.length_take, List.length_drop, List.length_reverse]; omega)) [-List.map_map, -List.map_set, -List.map_replicate, -List.getD_eq_getElem?_getD, -List.map_append, -List.append_assoc, -List.map_take, -List.map_drop, -List.map_reverse, dDiv_pos, dMod_pos, take_mapD, drop_mapD, rev_mapD, decide_eq_true, decide_eq_false, g_is_row, isRowB]
end Fl

namespace Fl
open Fs
/-! a whole number's signs -/
def sgL (i : Int) : List Nat := if i < 0 then 45 :: TL.numL i.natAbs else TL.numL i.natAbs
theorem tl_str (i : Int) : (PySem.Str.ofString (toString i)).cps.toList = sgL i := by
  unfold sgL
  by_cases h : i < 0
  · rw [if_pos h]
    obtain ⟨n, rfl⟩ : ∃ n : Nat, i = Int.negSucc n := ⟨(-i - 1).toNat, by omega⟩
    have e : toString (Int.negSucc n) = "-" ++ toString (n + 1) := rfl
    show TL.tl (PySem.Str.ofString (toString (Int.negSucc n))) = _
    rw [e, TL.tl_ofString, String.toList_append, List.map_append]
    have e2 := TL.tl_num (n + 1)
    rw [TL.tl_ofString] at e2
    have e3 : toString (((n + 1 : Nat)) : Int) = toString (n + 1) := rfl
    rw [e3] at e2
    rw [e2]
    rfl
  · rw [if_neg h]
    obtain ⟨n, rfl⟩ := Int.eq_ofNat_of_zero_le (show 0 ≤ i by omega)
    exact TL.tl_num n
theorem num_head : ∀ n : Nat, n ≠ 0 → ∃ c r, TL.numL n = c :: r ∧ c ≠ 48 := by
  intro n
  induction n using Nat.strongRecOn with
  | _ n ih =>
    intro h0
    by_cases h : n < 10
    · exact ⟨48 + n, [], TL.numL_lt h, by omega⟩
    · obtain ⟨c, r, e, hc⟩ := ih (n / 10) (by omega) (by omega)
      exact ⟨c, r ++ [48 + n % 10], by rw [TL.numL_step (by omega), e]; rfl, hc⟩
theorem num_ok (n : Nat) : ∀ c ∈ TL.numL n, 48 ≤ c ∧ c ≤ 57 := TL.numL_digits n
theorem sgL_ok (i : Int) : ∀ c ∈ sgL i, c = 45 ∨ (48 ≤ c ∧ c ≤ 57) := fun c h => by
  unfold sgL at h
  split at h
  · rcases List.mem_cons.mp h with h | h
    · exact .inl h
    · exact .inr (num_ok _ c h)
  · exact .inr (num_ok _ c h)
theorem strOk_of {w : PySem.Str} (h : ∀ c ∈ w.cps.toList, c < 128) : PySem.PyData.strOk w = true := by
  show w.cps.all (fun x => decide (x < 0x110000)) = true
  rw [← Array.all_toList, List.all_eq_true]
  intro c hc
  have := h c hc
  exact decide_eq_true (by omega)
theorem str_ext {a b : PySem.Str} (h : a.cps.toList = b.cps.toList) : a = b := TL.ext_tl h
theorem str_len (w : PySem.Str) : w.length = w.cps.toList.length := rfl
end Fl

-- needs: plain_txt
namespace Fl
open Fs
theorem sign_all : ∀ k : Fin 10, (PySem.Builtin.Str.occurrences (PySem.Str.ofString "0123456789") ⟨#[48 + k.val]⟩ 0 (PySem.Str.ofString "0123456789").length 1).isEmpty = false := by decide +kernel
theorem sign_in {c : Nat} (h : 48 ≤ c ∧ c ≤ 57) : dNotIn (.str ⟨#[c]⟩) (.str "0123456789") = .ok (.cl (.bl false)) := by
  obtain ⟨k, rfl⟩ : ∃ k, c = 48 + k := ⟨c - 48, by omega⟩
  have e := sign_all ⟨k, by omega⟩
  show Out.ok (R.cl (D.bl (!(!(PySem.Builtin.Str.occurrences (PySem.Str.ofString "0123456789") ⟨#[48 + k]⟩ 0 (PySem.Str.ofString "0123456789").length 1).isEmpty)))) = _
  rw [e]
  rfl
theorem is_number_ok {w : PySem.Str} {n : Nat} (e : w.cps.toList = TL.numL n) (hn : n < 10 ^ 60) : g_is_number [.str w] = .ok (.cl (.bl true)) := by
  have hl : w.length ≤ 60 := by rw [str_len, e]; exact TL.numL_len (by omega) hn
  have ok : PySem.PyData.strOk w = true := strOk_of fun c hc => by rw [e] at hc; have := num_ok n c hc; omega
  have ne : w ≠ (PySem.Str.ofString "") := fun z => TL.numL_ne n (by rw [← e, z]; rfl)
  have ee := dEq_str (a := w) (b := PySem.Str.ofString "") ok (by decide +kernel)
  rw [decide_eq_false ne] at ee
  have it : itemsOf (.str w) = some ((TL.numL n).map fun c => D.str ⟨#[c]⟩) := by
    show (if w.cps.size ≤ 16777216 then some (strItems w) else none) = _
    rw [if_pos (by have : w.cps.size = w.length := rfl; omega)]
    unfold strItems
    rw [e]
  have ln : dLen (.str w) = .ok (.cl (.int w.length)) := if_pos (by omega)
  have big : ¬ (60 : Int) < w.length := by omega
  simp only [g_is_number, gFun_eq]
  apply ret_eq
  have bq : bQ (.ok (.cl (.str w))) = .ok (true, (TL.numL n).map fun c => D.str ⟨#[c]⟩) := by
    show (match itemsOf (.str w) with | some ds => Out.ok ((R.cl (D.str w)).kept, ds) | none => .st) = _
    rw [it]
    rfl
  simp (disch := first | omega | decide +kernel | (simp only [List.length_map, List.length_append, List.length_cons, List.length_nil, List.length_range, List.length_take, List.length_drop, List.length_reverse]; omega)) [-List.map_map, -List.map_set, -List.map_replicate, -List.getD_eq_getElem?_getD, -List.map_append, -List.append_assoc, -List.map_take, -List.map_drop, -List.map_reverse, dDiv_pos, dMod_pos, take_mapD, drop_mapD, rev_mapD, decide_eq_true, decide_eq_false, ee, ln, big, bq]
  refine wp_for (j := fun c : Nat => D.str ⟨#[c]⟩) (xs := TL.numL n) (fun _ e => ∃ s1, e = [.sh (.str w), s1]) ⟨.un, rfl⟩ ?_ ?_
  · rintro done c rest _ hx ⟨s1, rfl⟩
    have si := sign_in (num_ok n c (by rw [hx]; simp))
    simp (disch := first | omega | decide +kernel | (simp only [List.length_map, List.length_append, List.length_cons, List.length_nil, List.length_range, List.length_take, List.length_drop, List.length_reverse]; omega)) [-List.map_map, -List.map_set, -List.map_replicate, -List.getD_eq_getElem?_getD, -List.map_append, -List.append_assoc, -List.map_take, -List.map_drop, -List.map_reverse, dDiv_pos, dMod_pos, take_mapD, drop_mapD, rev_mapD, decide_eq_true, decide_eq_false, si]
  · rintro _ ⟨s1, rfl⟩
    have e0 := dEq_str (a := w) (b := PySem.Str.ofString "0") ok (by decide +kernel)
    by_cases z : w = PySem.Str.ofString "0"
    · rw [decide_eq_true z] at e0
      simp (disch := first | omega | decide +kernel | (simp only [List.length_map, List.length_append, List.length_cons, List.length_nil, List.length_range, List.length_take, List.length_drop, List.length_reverse]; omega)) [-List.map_map, -List.map_set, -List.map_replicate, -List.getD_eq_getElem?_getD, -List.map_append, -List.append_assoc, -List.map_take, -List.map_drop, -List.map_reverse, dDiv_pos, dMod_pos, take_mapD, drop_mapD, rev_mapD, decide_eq_true, decide_eq_false, e0]
    · rw [decide_eq_false z] at e0
      have n0 : n ≠ 0 := fun q => z (str_ext (by rw [e, q]; rfl))
      obtain ⟨c, r, ec, hc⟩ := num_head n n0
      have ix : dIx (.str w) (.int 0) = .ok (.cl (.str ⟨#[c]⟩)) := by
        show (if w.length ≤ 16777216 then oO ((L2.atI w.cps.toList 0).map fun c => D.str ⟨#[c]⟩) else .st) = _
        rw [if_pos (by omega), e, ec, atI_pos (by omega) (by simp)]
        rfl
      have c2 : c < 128 := by have := num_ok n c (by rw [ec]; exact List.mem_cons_self); omega
      have nc : (⟨#[c]⟩ : PySem.Str) ≠ PySem.Str.ofString "0" := fun q => hc (by
        have := congrArg (fun s : PySem.Str => s.cps.toList) q
        have h2 : [c] = [48] := this
        injection h2)
      have e1 := dNe_str (a := ⟨#[c]⟩) (b := PySem.Str.ofString "0") (strOk_of fun x hx => by
        have : x = c := List.mem_singleton.mp hx
        omega) (by decide +kernel)
      rw [decide_eq_false nc] at e1
      simp (disch := first | omega | decide +kernel | (simp only [List.length_map, List.length_append, List.length_cons, List.length_nil, List.length_range, List.length_take, List.length_drop, List.length_reverse]; omega)) [-List.map_map, -List.map_set, -List.map_replicate, -List.getD_eq_getElem?_getD, -List.map_append, -List.append_assoc, -List.map_take, -List.map_drop, -List.map_reverse, dDiv_pos, dMod_pos, take_mapD, drop_mapD, rev_mapD, decide_eq_true, decide_eq_false, e0, ix, e1]
/-! any word of plain signs -/
def dgB (c : Nat) : Bool := decide (48 ≤ c) && decide (c ≤ 57)
def numB (l : List Nat) : Bool := !l.isEmpty && decide (l.length ≤ 60) && l.all dgB && (l == [48] || l.head? != some 48)
theorem sign_out : ∀ k : Fin 128, (k.val < 48 ∨ 57 < k.val) → (PySem.Builtin.Str.occurrences (PySem.Str.ofString "0123456789") ⟨#[k.val]⟩ 0 (PySem.Str.ofString "0123456789").length 1).isEmpty = true := by decide +kernel
theorem sign_any {c : Nat} (h : c < 128) : dNotIn (.str ⟨#[c]⟩) (.str "0123456789") = .ok (.cl (.bl (!dgB c))) := by
  by_cases q : 48 ≤ c ∧ c ≤ 57
  · rw [sign_in q]
    unfold dgB
    rw [decide_eq_true q.1, decide_eq_true q.2]
    rfl
  · have e := sign_out ⟨c, h⟩ (by show c < 48 ∨ 57 < c; omega)
    have d : dgB c = false := by
      unfold dgB
      by_cases q1 : 48 ≤ c
      · rw [decide_eq_false (show ¬ c ≤ 57 from fun q2 => q ⟨q1, q2⟩), Bool.and_false]
      · rw [decide_eq_false q1, Bool.false_and]
    rw [d]
    show Out.ok (R.cl (D.bl (!(!(PySem.Builtin.Str.occurrences (PySem.Str.ofString "0123456789") ⟨#[c]⟩ 0 (PySem.Str.ofString "0123456789").length 1).isEmpty)))) = _
    rw [e]
    rfl
theorem is_number_all {w : PySem.Str} (ha : ∀ c ∈ w.cps.toList, c < 128) (hl : w.length ≤ 100000) : g_is_number [.str w] = .ok (.cl (.bl (numB w.cps.toList))) := by
  have ok : PySem.PyData.strOk w = true := strOk_of ha
  have ln : dLen (.str w) = .ok (.cl (.int w.length)) := if_pos (by omega)
  have lw : w.length = w.cps.toList.length := str_len w
  have ee := dEq_str (a := w) (b := PySem.Str.ofString "") ok (by decide +kernel)
  simp only [g_is_number, gFun_eq]
  apply ret_eq
  by_cases hn : w = PySem.Str.ofString ""
  · rw [decide_eq_true hn] at ee
    have e0 : w.cps.toList = [] := by rw [hn]; rfl
    rw [e0]
    simp (disch := first | omega | decide +kernel | (simp only [List.length_map, List.length_append, List.length_cons, List.length_nil, List.length_range, List.length_take, List.length_drop, List.length_reverse]; omega)) [-List.map_map, -List.map_set, -List.map_replicate, -List.getD_eq_getElem?_getD, -List.map_append, -List.append_assoc, -List.map_take, -List.map_drop, -List.map_reverse, dDiv_pos, dMod_pos, take_mapD, drop_mapD, rev_mapD, decide_eq_true, decide_eq_false, ee, numB]
  rw [decide_eq_false hn] at ee
  have ne : w.cps.toList ≠ [] := fun q => hn (str_ext (by rw [q]; rfl))
  by_cases big : (60 : Int) < w.length
  · have e0 : numB w.cps.toList = false := by
      unfold numB
      rw [decide_eq_false (show ¬ w.cps.toList.length ≤ 60 by omega)]
      simp
    rw [e0]
    simp (disch := first | omega | decide +kernel | (simp only [List.length_map, List.length_append, List.length_cons, List.length_nil, List.length_range, List.length_take, List.length_drop, List.length_reverse]; omega)) [-List.map_map, -List.map_set, -List.map_replicate, -List.getD_eq_getElem?_getD, -List.map_append, -List.append_assoc, -List.map_take, -List.map_drop, -List.map_reverse, dDiv_pos, dMod_pos, take_mapD, drop_mapD, rev_mapD, decide_eq_true, decide_eq_false, ee, ln, big]
  have it : itemsOf (.str w) = some (w.cps.toList.map fun c => D.str ⟨#[c]⟩) := by
    show (if w.cps.size ≤ 16777216 then some (strItems w) else none) = _
    rw [if_pos (by have : w.cps.size = w.length := rfl; omega)]
    rfl
  have bq : bQ (.ok (.cl (.str w))) = .ok (true, w.cps.toList.map fun c => D.str ⟨#[c]⟩) := by
    show (match itemsOf (.str w) with | some ds => Out.ok ((R.cl (D.str w)).kept, ds) | none => .st) = _
    rw [it]
    rfl
  have l60 : w.cps.toList.length ≤ 60 := by omega
  have dIx0 : dIx (.str w) (.int 0) = oO ((L2.atI w.cps.toList 0).map fun c => D.str ⟨#[c]⟩) := if_pos (by omega)
  have e0 := dEq_str (a := w) (b := PySem.Str.ofString "0") ok (by decide +kernel)
  have zi : (w = PySem.Str.ofString "0") ↔ w.cps.toList = [48] := ⟨fun q => by rw [q]; rfl, fun q => str_ext (by rw [q]; rfl)⟩
  generalize w.cps.toList = l at *
  simp (disch := first | omega | decide +kernel | (simp only [List.length_map, List.length_append, List.length_cons, List.length_nil, List.length_range, List.length_take, List.length_drop, List.length_reverse]; omega)) [-List.map_map, -List.map_set, -List.map_replicate, -List.getD_eq_getElem?_getD, -List.map_append, -List.append_assoc, -List.map_take, -List.map_drop, -List.map_reverse, dDiv_pos, dMod_pos, take_mapD, drop_mapD, rev_mapD, decide_eq_true, decide_eq_false, ee, ln, big, bq]
  refine wp_for (j := fun c : Nat => D.str ⟨#[c]⟩) (xs := l) (fun done e => done.all dgB = true ∧ ∃ s1, e = [.sh (.str w), s1]) ⟨rfl, .un, rfl⟩ ?_ ?_
  · rintro done c rest _ hx ⟨hd, s1, rfl⟩
    have si := sign_any (ha c (by rw [hx]; simp))
    cases hc : dgB c with
    | true =>
      rw [hc] at si
      simp (disch := first | omega | decide +kernel | (simp only [List.length_map, List.length_append, List.length_cons, List.length_nil, List.length_range, List.length_take, List.length_drop, List.length_reverse]; omega)) [-List.map_map, -List.map_set, -List.map_replicate, -List.getD_eq_getElem?_getD, -List.map_append, -List.append_assoc, -List.map_take, -List.map_drop, -List.map_reverse, dDiv_pos, dMod_pos, take_mapD, drop_mapD, rev_mapD, decide_eq_true, decide_eq_false, si]
      refine ⟨?_, hc⟩
      rw [List.all_eq_true] at hd
      exact hd
    | false =>
      rw [hc] at si
      have e1 : numB l = false := by
        unfold numB
        have : l.all dgB = false := by rw [hx, List.all_append, List.all_cons, hc]; simp
        rw [this]
        simp
      simp (disch := first | omega | decide +kernel | (simp only [List.length_map, List.length_append, List.length_cons, List.length_nil, List.length_range, List.length_take, List.length_drop, List.length_reverse]; omega)) [-List.map_map, -List.map_set, -List.map_replicate, -List.getD_eq_getElem?_getD, -List.map_append, -List.append_assoc, -List.map_take, -List.map_drop, -List.map_reverse, dDiv_pos, dMod_pos, take_mapD, drop_mapD, rev_mapD, decide_eq_true, decide_eq_false, si, e1]
  · rintro _ ⟨hd, s1, rfl⟩
    have e1 : numB l = (l == [48] || l.head? != some 48) := by
      unfold numB
      rw [hd, decide_eq_true l60]
      cases l with
      | nil => exact absurd rfl ne
      | cons a r => simp
    rw [e1]
    by_cases z : l = [48]
    · rw [decide_eq_true (zi.mpr z)] at e0
      subst z
      simp (disch := first | omega | decide +kernel | (simp only [List.length_map, List.length_append, List.length_cons, List.length_nil, List.length_range, List.length_take, List.length_drop, List.length_reverse]; omega)) [-List.map_map, -List.map_set, -List.map_replicate, -List.getD_eq_getElem?_getD, -List.map_append, -List.append_assoc, -List.map_take, -List.map_drop, -List.map_reverse, dDiv_pos, dMod_pos, take_mapD, drop_mapD, rev_mapD, decide_eq_true, decide_eq_false, e0]
    · rw [decide_eq_false (fun q => z (zi.mp q))] at e0
      cases l with
      | nil => exact absurd rfl ne
      | cons c r =>
        have ix : dIx (.str w) (.int 0) = .ok (.cl (.str ⟨#[c]⟩)) := by
          rw [dIx0, atI_pos (by omega) (by simp)]
          rfl
        have e2 := dNe_str (a := ⟨#[c]⟩) (b := PySem.Str.ofString "0") (strOk_of fun x hx => by
          have : x = c := List.mem_singleton.mp hx
          have := ha c List.mem_cons_self
          omega) (by decide +kernel)
        have ci : ((⟨#[c]⟩ : PySem.Str) = PySem.Str.ofString "0") ↔ c = 48 := by
          constructor
          · intro q
            have h2 : [c] = [48] := congrArg (fun s : PySem.Str => s.cps.toList) q
            injection h2
          · rintro rfl; rfl
        have hz : (c :: r == [48]) = false := beq_eq_false_iff_ne.mpr z
        by_cases k : c = 48
        · rw [decide_eq_true (ci.mpr k)] at e2
          subst k
          have hr : r ≠ [] := fun q => z (by rw [q])
          simp (disch := first | omega | decide +kernel | (simp only [List.length_map, List.length_append, List.length_cons, List.length_nil, List.length_range, List.length_take, List.length_drop, List.length_reverse]; omega)) [-List.map_map, -List.map_set, -List.map_replicate, -List.getD_eq_getElem?_getD, -List.map_append, -List.append_assoc, -List.map_take, -List.map_drop, -List.map_reverse, dDiv_pos, dMod_pos, take_mapD, drop_mapD, rev_mapD, decide_eq_true, decide_eq_false, e0, ix, e2, hr]
        · rw [decide_eq_false (fun q => k (ci.mp q))] at e2
          simp (disch := first | omega | decide +kernel | (simp only [List.length_map, List.length_append, List.length_cons, List.length_nil, List.length_range, List.length_take, List.length_drop, List.length_reverse]; omega)) [-List.map_map, -List.map_set, -List.map_replicate, -List.getD_eq_getElem?_getD, -List.map_append, -List.append_assoc, -List.map_take, -List.map_drop, -List.map_reverse, dDiv_pos, dMod_pos, take_mapD, drop_mapD, rev_mapD, decide_eq_true, decide_eq_false, e0, ix, e2, hz, k]
end Fl

namespace Fl
open Fs
theorem cutS_hd {w : PySem.Str} {c : Nat} {r : List Nat} (e : w.cps.toList = c :: r) : L2.cutS w none (some 1) = ⟨#[c]⟩ := by
  refine str_ext ?_
  have hl : w.length = r.length + 1 := by rw [str_len, e]; rfl
  unfold L2.cutS HT.sIx
  simp only [e, hl]
  simp
theorem cutS_tl {w : PySem.Str} {c : Nat} {r : List Nat} (e : w.cps.toList = c :: r) : (L2.cutS w (some 1) none).cps.toList = r := by
  have hl : w.length = r.length + 1 := by rw [str_len, e]; rfl
  unfold L2.cutS HT.sIx
  simp only [e, hl]
  simp
theorem sgL_cons (i : Int) : ∃ c r, sgL i = c :: r := by
  unfold sgL
  split
  · exact ⟨_, _, rfl⟩
  · cases e : TL.numL i.natAbs with
    | nil => exact absurd e (TL.numL_ne _)
    | cons c r => exact ⟨c, r, rfl⟩
theorem whole_in_ok {w : PySem.Str} {i : Int} (e : w.cps.toList = sgL i) (hi : i.natAbs < 10 ^ 60) : g_whole_in [.str w] = .ok (.cl (.int i)) := by
  have nl : (TL.numL i.natAbs).length ≤ 60 := TL.numL_len (by omega) hi
  have wl : w.length ≤ 61 := by
    rw [str_len, e]
    unfold sgL
    split
    · rw [List.length_cons]; omega
    · omega
  have ok : PySem.PyData.strOk w = true := strOk_of fun c hc => by rw [e] at hc; have := sgL_ok i c hc; omega
  have c1 (lo hi : Option Int) : dCut (.str w) lo hi = .ok (.cl (.str (L2.cutS w lo hi))) := if_pos (by omega)
  obtain ⟨c, r, ec⟩ := sgL_cons i
  have ew : w.cps.toList = c :: r := by rw [e, ec]
  have h1 := cutS_hd ew
  have h2 := cutS_tl ew
  have c3 := sgL_ok i c (by rw [ec]; exact List.mem_cons_self)
  have m := dEq_str (a := ⟨#[c]⟩) (b := PySem.Str.ofString "-") (strOk_of fun x hx => by
    have : x = c := List.mem_singleton.mp hx
    omega) (by decide +kernel)
  have mi : ((⟨#[c]⟩ : PySem.Str) = PySem.Str.ofString "-") ↔ c = 45 := by
    constructor
    · intro q
      have h : [c] = [45] := congrArg (fun s : PySem.Str => s.cps.toList) q
      injection h
    · rintro rfl; rfl
  have z0 : w ≠ PySem.Str.ofString "-0" := fun q => by
    have h : sgL i = [45, 48] := by rw [← e, q]; rfl
    unfold sgL at h
    split at h
    · have h : TL.numL i.natAbs = [48] := by injection h
      have := TL.numL_inj (m := i.natAbs) (n := 0) (by rw [h]; rfl)
      omega
    · have := num_ok i.natAbs 45 (by rw [h]; exact List.mem_cons_self)
      omega
  have d0 := dEq_str (a := w) (b := PySem.Str.ofString "-0") ok (by decide +kernel)
  rw [decide_eq_false z0] at d0
  have it : dIntS (.str w) = .ok (.cl (.int i)) := by
    have e2 : PySem.intText? w = some i := by
      by_cases h : i < 0
      · have e3 : w.cps.toList = 45 :: TL.numL i.natAbs := by rw [e]; exact if_pos h
        rw [PySem.intText_neg e3 (TL.numL_digits _) (TL.numL_ne _) (by omega), TL.numL_val]
        congr 1
        omega
      · have e3 : w.cps.toList = TL.numL i.natAbs := by rw [e]; exact if_neg h
        rw [PySem.intText_digits (by rw [e3]; exact TL.numL_digits _) (by rw [e3]; exact TL.numL_ne _) (by omega), e3, TL.numL_val]
        congr 1
        omega
    show (if w.length ≤ 640 then (match PySem.intText? w with | some n => Out.ok (R.cl (D.int n)) | none => .st) else .st) = _
    rw [if_pos (by omega), e2]
  simp only [g_whole_in, gFun_eq]
  apply ret_eq
  by_cases h : i < 0
  · have e3 : sgL i = 45 :: TL.numL i.natAbs := if_pos h
    rw [e3] at ec
    have hc : 45 = c := by injection ec
    have hr : TL.numL i.natAbs = r := by injection ec
    rw [decide_eq_true (mi.mpr hc.symm)] at m
    have n1 := is_number_ok (w := L2.cutS w (some 1) none) (n := i.natAbs) (by rw [h2, hr]) hi
    simp (disch := first | omega | decide +kernel | (simp only [List.length_map, List.length_append, List.length_cons, List.length_nil, List.length_range, List.length_take, List.length_drop, List.length_reverse]; omega)) [-List.map_map, -List.map_set, -List.map_replicate, -List.getD_eq_getElem?_getD, -List.map_append, -List.append_assoc, -List.map_take, -List.map_drop, -List.map_reverse, dDiv_pos, dMod_pos, take_mapD, drop_mapD, rev_mapD, decide_eq_true, decide_eq_false, c1, h1, m, n1, d0, it]
  · have e3 : sgL i = TL.numL i.natAbs := if_neg h
    have hc : ¬ c = 45 := fun q => by
      have := num_ok i.natAbs c (by rw [← e3, ec]; exact List.mem_cons_self)
      omega
    rw [decide_eq_false (fun q => hc (mi.mp q))] at m
    have n1 := is_number_ok (w := w) (n := i.natAbs) (by rw [e, e3]) hi
    simp (disch := first | omega | decide +kernel | (simp only [List.length_map, List.length_append, List.length_cons, List.length_nil, List.length_range, List.length_take, List.length_drop, List.length_reverse]; omega)) [-List.map_map, -List.map_set, -List.map_replicate, -List.getD_eq_getElem?_getD, -List.map_append, -List.append_assoc, -List.map_take, -List.map_drop, -List.map_reverse, dDiv_pos, dMod_pos, take_mapD, drop_mapD, rev_mapD, decide_eq_true, decide_eq_false, c1, h1, m, n1, d0, it]
/-! any word of plain signs -/
def wholeL (l : List Nat) : Option Int :=
  if numB (if l.take 1 = [45] then l.drop 1 else l) = false ∨ l = [45, 48] then none
  else some (if l.take 1 = [45] then -(PySem.NumText.digitsVal (l.drop 1) : Int) else (PySem.NumText.digitsVal l : Int))
theorem numB_dg {l : List Nat} (h : numB l = true) : l ≠ [] ∧ l.length ≤ 60 ∧ PySem.NumText.AllDigits l := by
  unfold numB at h
  simp only [Bool.and_eq_true, decide_eq_true_eq] at h
  obtain ⟨⟨⟨h1, h2⟩, h3⟩, _⟩ := h
  refine ⟨fun q => (by rw [q] at h1; cases h1), h2, fun c hc => ?_⟩
  have := List.all_eq_true.mp h3 c hc
  unfold dgB at this
  simp only [Bool.and_eq_true, decide_eq_true_eq] at this
  exact this
theorem tl_neg {w : PySem.Str} (h : w.cps.toList.take 1 = [45]) : w.cps.toList = 45 :: w.cps.toList.drop 1 := by
  cases e : w.cps.toList with
  | nil => rw [e] at h; cases h
  | cons c r =>
    rw [e] at h
    have : [c] = [45] := h
    injection this with this
    rw [this]; rfl
theorem whole_in_all {w : PySem.Str} (ha : ∀ c ∈ w.cps.toList, c < 128) (hl : w.length ≤ 100000) : g_whole_in [.str w] = match wholeL w.cps.toList with | some i => .ok (.cl (.int i)) | none => .ex "NoText" := by
  have ok : PySem.PyData.strOk w = true := strOk_of ha
  have lw : w.length = w.cps.toList.length := str_len w
  have c1 (lo hi : Option Int) : dCut (.str w) lo hi = .ok (.cl (.str (L2.cutS w lo hi))) := if_pos (by omega)
  have d0 := dEq_str (a := w) (b := PySem.Str.ofString "-0") ok (by decide +kernel)
  have zi : (w = PySem.Str.ofString "-0") ↔ w.cps.toList = [45, 48] := ⟨fun q => by rw [q]; rfl, fun q => str_ext (by rw [q]; rfl)⟩
  have t1 : (L2.cutS w none (some 1)).cps.toList = w.cps.toList.take 1 := by
    cases e : w.cps.toList with
    | nil =>
      have hl : w.length = 0 := by rw [lw, e]; rfl
      unfold L2.cutS HT.sIx
      simp only [e, hl]
      simp
    | cons c r => rw [cutS_hd e]; rfl
  have t2 : w.cps.toList.take 1 = [45] → (L2.cutS w (some 1) none).cps.toList = w.cps.toList.drop 1 := fun h => cutS_tl (tl_neg h)
  have mi : (L2.cutS w none (some 1) = PySem.Str.ofString "-") ↔ w.cps.toList.take 1 = [45] := ⟨fun q => by rw [← t1, q]; rfl, fun q => str_ext (by rw [t1, q]; rfl)⟩
  have m := dEq_str (a := L2.cutS w none (some 1)) (b := PySem.Str.ofString "-") (strOk_of fun c hc => ha c (by rw [t1] at hc; exact List.mem_of_mem_take hc)) (by decide +kernel)
  have nd := @is_number_all
  have itx : ∀ i, PySem.intText? w = some i → w.length ≤ 640 → dIntS (.str w) = .ok (.cl (.int i)) := fun i e h => by
    show (if w.length ≤ 640 then (match PySem.intText? w with | some n => Out.ok (R.cl (D.int n)) | none => .st) else .st) = _
    rw [if_pos h, e]
  simp only [g_whole_in, gFun_eq]
  by_cases h : w.cps.toList.take 1 = [45]
  · rw [decide_eq_true (mi.mpr h)] at m
    have n1 := nd (w := L2.cutS w (some 1) none) (fun c hc => ha c (by rw [t2 h] at hc; exact List.mem_of_mem_drop hc)) (by rw [str_len, t2 h, List.length_drop]; omega)
    rw [t2 h] at n1
    unfold wholeL
    rw [if_pos h, if_pos h]
    cases hb : numB (w.cps.toList.drop 1) with
    | false =>
      rw [hb] at n1
      rw [if_pos (.inl rfl)]
      apply ret_ex
      simp (disch := first | omega | decide +kernel | (simp only [List.length_map, List.length_append, List.length_cons, List.length_nil, List.length_range, List.length_take, List.length_drop, List.length_reverse]; omega)) [-List.map_map, -List.map_set, -List.map_replicate, -List.getD_eq_getElem?_getD, -List.map_append, -List.append_assoc, -List.map_take, -List.map_drop, -List.map_reverse, dDiv_pos, dMod_pos, take_mapD, drop_mapD, rev_mapD, decide_eq_true, decide_eq_false, c1, m, n1]
    | true =>
      rw [hb] at n1
      obtain ⟨q1, q2, q3⟩ := numB_dg hb
      by_cases z : w.cps.toList = [45, 48]
      · rw [decide_eq_true (zi.mpr z)] at d0
        rw [if_pos (.inr z)]
        apply ret_ex
        simp (disch := first | omega | decide +kernel | (simp only [List.length_map, List.length_append, List.length_cons, List.length_nil, List.length_range, List.length_take, List.length_drop, List.length_reverse]; omega)) [-List.map_map, -List.map_set, -List.map_replicate, -List.getD_eq_getElem?_getD, -List.map_append, -List.append_assoc, -List.map_take, -List.map_drop, -List.map_reverse, dDiv_pos, dMod_pos, take_mapD, drop_mapD, rev_mapD, decide_eq_true, decide_eq_false, c1, m, n1, d0]
      · rw [decide_eq_false (fun q => z (zi.mp q))] at d0
        rw [if_neg (by simp [z])]
        have hz : w.length ≤ 61 := by rw [lw]; rw [List.length_drop] at q2; omega
        have it := itx _ (PySem.intText_neg (tl_neg h) q3 q1 (by omega)) (by omega)
        apply ret_eq
        simp (disch := first | omega | decide +kernel | (simp only [List.length_map, List.length_append, List.length_cons, List.length_nil, List.length_range, List.length_take, List.length_drop, List.length_reverse]; omega)) [-List.map_map, -List.map_set, -List.map_replicate, -List.getD_eq_getElem?_getD, -List.map_append, -List.append_assoc, -List.map_take, -List.map_drop, -List.map_reverse, dDiv_pos, dMod_pos, take_mapD, drop_mapD, rev_mapD, decide_eq_true, decide_eq_false, c1, m, n1, d0, it]
  · rw [decide_eq_false (fun q => h (mi.mp q))] at m
    have n1 := nd (w := w) ha hl
    unfold wholeL
    rw [if_neg h, if_neg h]
    cases hb : numB w.cps.toList with
    | false =>
      rw [hb] at n1
      rw [if_pos (.inl rfl)]
      apply ret_ex
      simp (disch := first | omega | decide +kernel | (simp only [List.length_map, List.length_append, List.length_cons, List.length_nil, List.length_range, List.length_take, List.length_drop, List.length_reverse]; omega)) [-List.map_map, -List.map_set, -List.map_replicate, -List.getD_eq_getElem?_getD, -List.map_append, -List.append_assoc, -List.map_take, -List.map_drop, -List.map_reverse, dDiv_pos, dMod_pos, take_mapD, drop_mapD, rev_mapD, decide_eq_true, decide_eq_false, c1, m, n1]
    | true =>
      rw [hb] at n1
      obtain ⟨q1, q2, q3⟩ := numB_dg hb
      by_cases z : w.cps.toList = [45, 48]
      · rw [z] at h; exact absurd rfl h
      · rw [decide_eq_false (fun q => z (zi.mp q))] at d0
        rw [if_neg (by simp [z])]
        have it := itx _ (PySem.intText_digits q3 q1 (by rw [← lw] at q2; omega)) (by omega)
        apply ret_eq
        simp (disch := first | omega | decide +kernel | (simp only [List.length_map, List.length_append, List.length_cons, List.length_nil, List.length_range, List.length_take, List.length_drop, List.length_reverse]; omega)) [-List.map_map, -List.map_set, -List.map_replicate, -List.getD_eq_getElem?_getD, -List.map_append, -List.append_assoc, -List.map_take, -List.map_drop, -List.map_reverse, dDiv_pos, dMod_pos, take_mapD, drop_mapD, rev_mapD, decide_eq_true, decide_eq_false, c1, m, n1, d0, it]
end Fl

namespace Fl
open Fs
theorem check_text_ok (w : PySem.Str) : g_check_text [.str w] = .ok (.cl .non) := by
  simp (disch := first | omega | decide +kernel | (simp only [List.length_map, List.length_append, List.length_cons, List.length_nil, List.length_range, List.length_take, List.length_drop, List.length_reverse]; omega)) [-List.map_map, -List.map_set, -List.map_replicate, -List.getD_eq_getElem?_getD, -List.map_append, -List.append_assoc, -List.map_take, -List.map_drop, -List.map_reverse, dDiv_pos, dMod_pos, take_mapD, drop_mapD, rev_mapD, decide_eq_true, decide_eq_false, g_check_text]
theorem check_text_no {d : D} (h : isaB "str" d = false) : g_check_text [d] = .ex "NoText" := by
  simp (disch := first | omega | decide +kernel | (simp only [List.length_map, List.length_append, List.length_cons, List.length_nil, List.length_range, List.length_take, List.length_drop, List.length_reverse]; omega)) [-List.map_map, -List.map_set, -List.map_replicate, -List.getD_eq_getElem?_getD, -List.map_append, -List.append_assoc, -List.map_take, -List.map_drop, -List.map_reverse, dDiv_pos, dMod_pos, take_mapD, drop_mapD, rev_mapD, decide_eq_true, decide_eq_false, g_check_text, h]
end Fl

namespace Fl
open Fs
/-! comprehensions whose element may raise -/
def bCX (o : Out (Bool × List D)) (k : List D → Out (List D)) : Out R := match o with
  | .ok (_, ds) => endC (k ds)
  | .ex c => .ex c
  | .st => .st
@[simp] theorem q_compX (src : Ix) (t : Tgt) (c : Tx) (f : Sx) (vs : List Nat) (env : Fs.Env) : eCompX src t c f vs env = bCX (src env) fun ds => compFX t c f ds (wipeE env vs) := rfl
@[simp] theorem bCX_ok (b : Bool) (ds : List D) (k : List D → Out (List D)) : bCX (.ok (b, ds)) k = endC (k ds) := rfl
@[simp] theorem endC_ok (rs : List D) : endC (.ok rs) = .ok (.ow (.lst rs)) := rfl
@[simp] theorem endC_ex (c : String) : endC (.ex c) = .ex c := rfl
def optO (c : String) : Option (List D) → Out (List D)
  | some ds => .ok ds
  | none => .ex c
theorem compFX_opt {β : Type} {i : Nat} {f : Sx} {j : β → D} {env : Fs.Env} {g : β → Option D} {c : String} : ∀ {xs : List β}, (∀ x ∈ xs, f (env.set i (.sh (j x))) = match g x with | some d => .ok (.cl d) | none => .ex c) →
    compFX (.one i) (fun _ => .ok true) f (xs.map j) env = optO c (xs.mapM g)
  | [], _ => rfl
  | x :: xs, h => by
    have h1 := h x List.mem_cons_self
    have ih := compFX_opt (g := g) (xs := xs) fun y hy => h y (List.mem_cons_of_mem _ hy)
    rw [List.map_cons, List.mapM_cons]
    unfold compFX
    show (match f (env.set i (.sh (j x))) with | .ok (.bo _) => Out.st | .ok r => consO r.d (compFX (.one i) (fun _ => .ok true) f (xs.map j) env) | .ex c => .ex c | .st => .st) = _
    rw [h1]
    cases e : g x with
    | none => rfl
    | some d =>
      simp only []
      rw [ih]
      cases xs.mapM g <;> rfl
end Fl

-- needs: plain_cx plain_txt
namespace Fl
open Fs
theorem mem_spl (S : List Nat) : ∀ (l : List Nat) (k : Nat) (acc p : List Nat), p ∈ TL.spl S k acc l → (∀ c ∈ p, c ∈ acc ∨ c ∈ l) ∧ p.length ≤ acc.length + l.length
  | [], k, acc, p, h => by
    rw [TL.spl_nil, List.mem_singleton] at h
    subst h
    exact ⟨fun c hc => .inl hc, by simp⟩
  | c :: r, 0, acc, p, h => by
    cases e : TL.pre S (c :: r) with
    | true =>
      rw [TL.spl_hit e] at h
      rcases List.mem_cons.mp h with h | h
      · subst h; exact ⟨fun c hc => .inl hc, by simp⟩
      · have ih := mem_spl S r _ [] p h
        refine ⟨fun c hc => .inr ((ih.1 c hc).elim (fun z => by cases z) fun z => List.mem_cons_of_mem _ z), ?_⟩
        have := ih.2
        simp only [List.length_nil, List.length_cons] at this ⊢
        omega
    | false =>
      rw [TL.spl_miss e] at h
      have ih := mem_spl S r 0 _ p h
      refine ⟨fun x hx => (ih.1 x hx).elim (fun z => (List.mem_append.mp z).elim .inl fun z => .inr (by rw [List.mem_singleton.mp z]; exact List.mem_cons_self)) fun z => .inr (List.mem_cons_of_mem _ z), ?_⟩
      have := ih.2
      simp only [List.length_append, List.length_cons, List.length_nil] at this ⊢
      omega
  | c :: r, k + 1, acc, p, h => by
    have ih := mem_spl S r k acc p h
    refine ⟨fun x hx => (ih.1 x hx).imp id fun z => List.mem_cons_of_mem _ z, ?_⟩
    have := ih.2
    simp only [List.length_cons]
    omega
theorem len_spl (S : List Nat) : ∀ (l : List Nat) (k : Nat) (acc : List Nat), (TL.spl S k acc l).length ≤ l.length + 1
  | [], k, acc => by rw [TL.spl_nil]; simp
  | c :: r, 0, acc => by
    cases e : TL.pre S (c :: r) with
    | true =>
      rw [TL.spl_hit e, List.length_cons, List.length_cons]
      have := len_spl S r (S.length - 1) []
      omega
    | false =>
      rw [TL.spl_miss e, List.length_cons]
      have := len_spl S r 0 (acc ++ [c])
      omega
  | c :: r, k + 1, acc => by
    have := len_spl S r k acc
    rw [List.length_cons]
    show (TL.spl S k acc r).length ≤ _
    omega
/-- a sign that is in the text is in one of its words, or stands there where it is cut -/
theorem in_spl {s c : Nat} (hc : c ≠ s) : ∀ (l : List Nat) (acc : List Nat), c ∈ acc ∨ c ∈ l → ∃ p ∈ TL.spl [s] 0 acc l, c ∈ p
  | [], acc, h => ⟨acc, by rw [TL.spl_nil]; exact List.mem_singleton_self _, h.elim id fun z => by cases z⟩
  | x :: r, acc, h => by
    cases e : TL.pre [s] (x :: r) with
    | true =>
      rw [TL.spl_hit e]
      have hx : x = s := by
        have : [x] = [s] := by simpa [TL.pre] using e
        injection this
      rcases h with h | h
      · exact ⟨acc, List.mem_cons_self, h⟩
      · rcases List.mem_cons.mp h with h | h
        · exact absurd (h.trans hx) hc
        · obtain ⟨p, hp, q⟩ := in_spl hc r [] (.inr h)
          exact ⟨p, List.mem_cons_of_mem _ hp, q⟩
    | false =>
      rw [TL.spl_miss e]
      refine in_spl hc r _ ?_
      rcases h with h | h
      · exact .inl (List.mem_append_left _ h)
      · rcases List.mem_cons.mp h with h | h
        · exact .inl (by rw [h]; simp)
        · exact .inr h
theorem mapM_none {α β : Type} {g : α → Option β} : ∀ {l : List α} {a : α}, a ∈ l → g a = none → l.mapM g = none
  | x :: l, a, h, e => by
    rw [List.mapM_cons]
    rcases List.mem_cons.mp h with h | h
    · subst h; rw [e]; rfl
    · cases g x with
      | none => rfl
      | some y => rw [mapM_none (l := l) h e]; rfl
theorem mapM_lift {α β γ δ : Type} {t : α → β} {g : β → Option γ} {f : γ → δ} : ∀ l : List α, l.mapM (fun a => (g (t a)).map f) = ((l.map t).mapM g).map (List.map f)
  | [] => rfl
  | a :: l => by
    rw [List.mapM_cons, List.map_cons, List.mapM_cons, mapM_lift l]
    cases g (t a) with
    | none => rfl
    | some y => cases (l.map t).mapM g <;> rfl
theorem mapM_len {α β : Type} {g : α → Option β} : ∀ {l : List α} {r : List β}, l.mapM g = some r → r.length = l.length
  | [], r, h => by cases h; rfl
  | a :: l, r, h => by
    rw [List.mapM_cons] at h
    cases e : g a with
    | none => rw [e] at h; cases h
    | some y =>
      rw [e] at h
      cases e2 : l.mapM g with
      | none => rw [e2] at h; cases h
      | some ys => rw [e2] at h; cases h; rw [List.length_cons, List.length_cons, mapM_len e2]
/-- a text cut, word by word -/
theorem split_all {w sep : PySem.Str} {s : Nat} (hs : sep.cps.toList = [s]) (s1 : s < 128) (hl : w.length ≤ 100000) : dSplit (.str w) (.str sep) = .ok (.ow (.lst ((PySem.Txt.split w sep).map D.str))) ∧ (PySem.Txt.split w sep).map (fun p => p.cps.toList) = TL.spl [s] 0 [] w.cps.toList := by
  have sl : sep.length = 1 := by rw [str_len, hs]; rfl
  refine ⟨?_, ?_⟩
  · show (if (sep.length == 0) = false ∧ w.length + 2 ≤ 16777216 then Out.ok (R.ow (.lst ((PySem.Txt.split w sep).map D.str))) else .st) = _
    rw [if_pos ⟨by rw [sl]; rfl, by omega⟩]
  · have k := TL.split_spl w sep (by show sep.cps.toList ≠ []; rw [hs]; simp) (TL.kind_ok (by rw [← Array.all_toList, hs]; simp; omega))
    have e : TL.tl sep = [s] := hs
    rw [e] at k
    exact k
end Fl

-- needs: plain_spl plain_cx
namespace Fl
open Fs
/-- the set that a text writes -/
def readSetL (l : List Nat) : Option (List Int) := if l = [45] then some [] else match (TL.spl [32] 0 [] l).mapM wholeL with
  | none => none
  | some xs => if decide (xs.Pairwise (· < ·)) && decide (xs.length ≤ 60) then some xs else none
theorem whole_words {w sep : PySem.Str} {s : Nat} (hs : sep.cps.toList = [s]) (s1 : s < 128) (ha : ∀ c ∈ w.cps.toList, c < 128) (hl : w.length ≤ 100000) (env : Fs.Env) (h2 : 2 < env.length) :
    compFX (.one 2) (fun _ => .ok true) (eCall g_whole_in [eVar 2]) ((PySem.Txt.split w sep).map D.str) env = optO "NoText" (((TL.spl [s] 0 [] w.cps.toList).mapM wholeL).map (List.map D.int)) := by
  have sp := (split_all (w := w) hs s1 hl).2
  rw [← sp, ← mapM_lift]
  refine compFX_opt (c := "NoText") fun p hp => ?_
  have hm := mem_spl [s] w.cps.toList 0 [] p.cps.toList (by rw [← sp]; exact List.mem_map_of_mem hp)
  have h1 := whole_in_all (w := p) (fun c hc => ha c ((hm.1 c hc).elim (fun z => by cases z) id)) (by have := hm.2; rw [str_len]; rw [str_len] at hl; simp only [List.length_nil] at this; omega)
  have h3 : (env.set 2 (.sh (.str p)))[2]? = some (.sh (.str p)) := by rw [List.getElem?_set_self h2]
  simp (disch := first | omega | decide +kernel | (simp only [List.length_map, List.length_append, List.length_cons, List.length_nil, List.length_range, List.length_take, List.length_drop, List.length_reverse]; omega)) [-List.map_map, -List.map_set, -List.map_replicate, -List.getD_eq_getElem?_getD, -List.map_append, -List.append_assoc, -List.map_take, -List.map_drop, -List.map_reverse, dDiv_pos, dMod_pos, take_mapD, drop_mapD, rev_mapD, decide_eq_true, decide_eq_false, h3, h1]
  cases wholeL p.cps.toList <;> rfl
theorem read_set_all {w : PySem.Str} (ha : ∀ c ∈ w.cps.toList, c < 128) (hl : w.length ≤ 90000) : g_read_set [.str w] = match readSetL w.cps.toList with | some xs => .ok (.cl (.tup (xs.map D.int))) | none => .ex "NoText" := by
  have m := dEq_str (a := w) (b := PySem.Str.ofString "-") (strOk_of ha) (by decide +kernel)
  have zi : (w = PySem.Str.ofString "-") ↔ w.cps.toList = [45] := ⟨fun q => by rw [q]; rfl, fun q => str_ext (by rw [q]; rfl)⟩
  have sp := (split_all (w := w) (sep := PySem.Str.ofString " ") (s := 32) rfl (by omega) (by omega)).1
  have ww := whole_words (w := w) (sep := PySem.Str.ofString " ") (s := 32) rfl (by omega) ha (by omega) [.sh (.str w), .un, .un] (by simp)
  have ln := len_spl [32] w.cps.toList 0 []
  rw [← str_len] at ln
  simp only [g_read_set, gFun_eq]
  unfold readSetL
  by_cases z : w.cps.toList = [45]
  · rw [decide_eq_true (zi.mpr z)] at m
    rw [if_pos z]
    apply ret_eq
    simp (disch := first | omega | decide +kernel | (simp only [List.length_map, List.length_append, List.length_cons, List.length_nil, List.length_range, List.length_take, List.length_drop, List.length_reverse]; omega)) [-List.map_map, -List.map_set, -List.map_replicate, -List.getD_eq_getElem?_getD, -List.map_append, -List.append_assoc, -List.map_take, -List.map_drop, -List.map_reverse, dDiv_pos, dMod_pos, take_mapD, drop_mapD, rev_mapD, decide_eq_true, decide_eq_false, check_text_ok, m]
  · rw [decide_eq_false (fun q => z (zi.mp q))] at m
    rw [if_neg z]
    cases e : (TL.spl [32] 0 [] w.cps.toList).mapM wholeL with
    | none =>
      rw [e] at ww
      have ww : _ = Out.ex "NoText" := ww
      apply ret_ex
      simp (disch := first | omega | decide +kernel | (simp only [List.length_map, List.length_append, List.length_cons, List.length_nil, List.length_range, List.length_take, List.length_drop, List.length_reverse]; omega)) [-List.map_map, -List.map_set, -List.map_replicate, -List.getD_eq_getElem?_getD, -List.map_append, -List.append_assoc, -List.map_take, -List.map_drop, -List.map_reverse, dDiv_pos, dMod_pos, take_mapD, drop_mapD, rev_mapD, decide_eq_true, decide_eq_false, check_text_ok, m, sp, ww]
    | some xs =>
      rw [e] at ww
      have ww : _ = Out.ok (xs.map D.int) := ww
      have lx := mapM_len e
      have st := is_set_ints (xs := xs) (by omega)
      simp only []
      by_cases u : xs.Pairwise (· < ·)
      · rw [decide_eq_true u] at st ⊢
        by_cases l60 : xs.length ≤ 60
        · rw [decide_eq_true l60]
          have big : ¬ (60 : Int) < xs.length := by omega
          show _ = Out.ok (R.cl (D.tup (xs.map D.int)))
          apply ret_eq
          simp (disch := first | omega | decide +kernel | (simp only [List.length_map, List.length_append, List.length_cons, List.length_nil, List.length_range, List.length_take, List.length_drop, List.length_reverse]; omega)) [-List.map_map, -List.map_set, -List.map_replicate, -List.getD_eq_getElem?_getD, -List.map_append, -List.append_assoc, -List.map_take, -List.map_drop, -List.map_reverse, dDiv_pos, dMod_pos, take_mapD, drop_mapD, rev_mapD, decide_eq_true, decide_eq_false, check_text_ok, m, sp, ww, st, big]
        · rw [decide_eq_false l60]
          have big : (60 : Int) < xs.length := by omega
          show _ = Out.ex "NoText"
          apply ret_ex
          simp (disch := first | omega | decide +kernel | (simp only [List.length_map, List.length_append, List.length_cons, List.length_nil, List.length_range, List.length_take, List.length_drop, List.length_reverse]; omega)) [-List.map_map, -List.map_set, -List.map_replicate, -List.getD_eq_getElem?_getD, -List.map_append, -List.append_assoc, -List.map_take, -List.map_drop, -List.map_reverse, dDiv_pos, dMod_pos, take_mapD, drop_mapD, rev_mapD, decide_eq_true, decide_eq_false, check_text_ok, m, sp, ww, st, big]
      · rw [decide_eq_false u] at st ⊢
        show _ = Out.ex "NoText"
        apply ret_ex
        simp (disch := first | omega | decide +kernel | (simp only [List.length_map, List.length_append, List.length_cons, List.length_nil, List.length_range, List.length_take, List.length_drop, List.length_reverse]; omega)) [-List.map_map, -List.map_set, -List.map_replicate, -List.getD_eq_getElem?_getD, -List.map_append, -List.append_assoc, -List.map_take, -List.map_drop, -List.map_reverse, dDiv_pos, dMod_pos, take_mapD, drop_mapD, rev_mapD, decide_eq_true, decide_eq_false, check_text_ok, m, sp, ww, st]
theorem read_set_odd {d : D} (h : isaB "str" d = false) : g_read_set [d] = .ex "NoText" := by
  simp (disch := first | omega | decide +kernel | (simp only [List.length_map, List.length_append, List.length_cons, List.length_nil, List.length_range, List.length_take, List.length_drop, List.length_reverse]; omega)) [-List.map_map, -List.map_set, -List.map_replicate, -List.getD_eq_getElem?_getD, -List.map_append, -List.append_assoc, -List.map_take, -List.map_drop, -List.map_reverse, dDiv_pos, dMod_pos, take_mapD, drop_mapD, rev_mapD, decide_eq_true, decide_eq_false, g_read_set, check_text_no h]
end Fl

-- needs: plain_spl
namespace Fl
open Fs
/-- the even row that a text writes -/
def readRowL (l : List Nat) : Option (List Int) := match (TL.spl [58] 0 [] l).mapM wholeL with
  | none => none
  | some xs => if isRowB (.tup (xs.map D.int)) then some xs else none
theorem read_row_all {w : PySem.Str} (ha : ∀ c ∈ w.cps.toList, c < 128) (hl : w.length ≤ 90000) : g_read_row [.str w] = match readRowL w.cps.toList with | some xs => .ok (.cl (.tup (xs.map D.int))) | none => .ex "NoText" := by
  have sp := (split_all (w := w) (sep := PySem.Str.ofString ":") (s := 58) rfl (by omega) (by omega)).1
  have ww := whole_words (w := w) (sep := PySem.Str.ofString ":") (s := 58) rfl (by omega) ha (by omega) [.sh (.str w), .un, .un] (by simp)
  simp only [g_read_row, gFun_eq]
  unfold readRowL
  cases e : (TL.spl [58] 0 [] w.cps.toList).mapM wholeL with
  | none =>
    rw [e] at ww
    have ww : _ = Out.ex "NoText" := ww
    apply ret_ex
    simp (disch := first | omega | decide +kernel | (simp only [List.length_map, List.length_append, List.length_cons, List.length_nil, List.length_range, List.length_take, List.length_drop, List.length_reverse]; omega)) [-List.map_map, -List.map_set, -List.map_replicate, -List.getD_eq_getElem?_getD, -List.map_append, -List.append_assoc, -List.map_take, -List.map_drop, -List.map_reverse, dDiv_pos, dMod_pos, take_mapD, drop_mapD, rev_mapD, decide_eq_true, decide_eq_false, check_text_ok, sp, ww]
  | some xs =>
    rw [e] at ww
    have ww : _ = Out.ok (xs.map D.int) := ww
    have st := is_row_eq (.tup (xs.map D.int))
    simp only []
    cases u : isRowB (.tup (xs.map D.int)) with
    | true =>
      rw [u] at st
      show _ = Out.ok (R.cl (D.tup (xs.map D.int)))
      apply ret_eq
      simp (disch := first | omega | decide +kernel | (simp only [List.length_map, List.length_append, List.length_cons, List.length_nil, List.length_range, List.length_take, List.length_drop, List.length_reverse]; omega)) [-List.map_map, -List.map_set, -List.map_replicate, -List.getD_eq_getElem?_getD, -List.map_append, -List.append_assoc, -List.map_take, -List.map_drop, -List.map_reverse, dDiv_pos, dMod_pos, take_mapD, drop_mapD, rev_mapD, decide_eq_true, decide_eq_false, check_text_ok, sp, ww, st]
    | false =>
      rw [u] at st
      show _ = Out.ex "NoText"
      apply ret_ex
      simp (disch := first | omega | decide +kernel | (simp only [List.length_map, List.length_append, List.length_cons, List.length_nil, List.length_range, List.length_take, List.length_drop, List.length_reverse]; omega)) [-List.map_map, -List.map_set, -List.map_replicate, -List.getD_eq_getElem?_getD, -List.map_append, -List.append_assoc, -List.map_take, -List.map_drop, -List.map_reverse, dDiv_pos, dMod_pos, take_mapD, drop_mapD, rev_mapD, decide_eq_true, decide_eq_false, check_text_ok, sp, ww, st]
theorem read_row_odd {d : D} (h : isaB "str" d = false) : g_read_row [d] = .ex "NoText" := by
  simp (disch := first | omega | decide +kernel | (simp only [List.length_map, List.length_append, List.length_cons, List.length_nil, List.length_range, List.length_take, List.length_drop, List.length_reverse]; omega)) [-List.map_map, -List.map_set, -List.map_replicate, -List.getD_eq_getElem?_getD, -List.map_append, -List.append_assoc, -List.map_take, -List.map_drop, -List.map_reverse, dDiv_pos, dMod_pos, take_mapD, drop_mapD, rev_mapD, decide_eq_true, decide_eq_false, g_read_row, check_text_no h]
end Fl

namespace Fl
open Fs
theorem draw_ok (c k b : Int) (hk : 0 ≤ k) (hk2 : k ≤ 8000000) (hb : 0 < b) (hb2 : b < 18446744073709551616) : ∃ r, g__law_draw [.int c, .int k, .int b] = .ok r ∧ ∃ v, r = .cl (.int v) ∧ 0 ≤ v ∧ v < b := by
  have fin (x : Int) : 0 ≤ x % b ∧ x % b < b := ⟨Int.emod_nonneg _ (by omega), Int.emod_lt_of_pos _ hb⟩
  by_cases h : 1000000000000000000 ≤ c
  · simp (disch := omega) only [g__law_draw, gFun_eq]
    apply ret_some
    simp (disch := omega) [h, smallI_of]
    refine wp_ran (fun _ e => ∃ x s, e = [.sh (.int c), .sh (.int k), .sh (.int b), .sh (.int x), s, .un]) ⟨_, _, rfl⟩ ?_ ?_
    · rintro n _ _ ⟨x, s, rfl⟩
      simp [dDiv_pos, hb, hb2]
    · rintro _ ⟨x, s, rfl⟩
      simp [dMod_pos, hb, fin]
  · simp (disch := omega) [g__law_draw, dMod_pos, dDiv_pos, hb, hb2, h, mulOk_l, mulOk_r, fin]

/-- what a draw tells -/
def dr (c k b : Int) : Int := match g__law_draw [.int c, .int k, .int b] with
  | .ok (.cl (.int v)) => v
  | _ => 0
theorem dr_all {c k b : Int} (hk : 0 ≤ k) (hk2 : k ≤ 8000000) (hb : 0 < b) (hb2 : b < 18446744073709551616) : g__law_draw [.int c, .int k, .int b] = .ok (.cl (.int (dr c k b))) ∧ 0 ≤ dr c k b ∧ dr c k b < b := by
  obtain ⟨_, e, v, rfl, h⟩ := draw_ok c k b hk hk2 hb hb2
  unfold dr
  rw [e]
  exact ⟨rfl, h⟩
theorem draw_eq {c k b : Int} (hk : 0 ≤ k) (hk2 : k ≤ 8000000) (hb : 0 < b) (hb2 : b < 18446744073709551616) : g__law_draw [.int c, .int k, .int b] = .ok (.cl (.int (dr c k b))) := (dr_all hk hk2 hb hb2).1
theorem dr_lo {c k b : Int} (hk : 0 ≤ k) (hk2 : k ≤ 8000000) (hb : 0 < b) (hb2 : b < 18446744073709551616) : 0 ≤ dr c k b := (dr_all hk hk2 hb hb2).2.1
theorem dr_hi {c k b : Int} (hk : 0 ≤ k) (hk2 : k ≤ 8000000) (hb : 0 < b) (hb2 : b < 18446744073709551616) : dr c k b < b := (dr_all hk hk2 hb hb2).2.2
end Fl

namespace Fl
open Fs
def kndT : List (String × String) := [("NoSet", "set"), ("NoNumber", "number"), ("NoSum", "sum"), ("NoRow", "row"), ("TooMany", "many"), ("NoText", "text"), ("NoDeed", "deed"), ("NoRound", "round")]
theorem law_kinds_ok {c t : String} (h : exSub c = some true) (k : (c, t) ∈ kndT) : g__law_kinds c = .ok (.cl (.str t)) := by
  have hc := exTab_in h
  simp only [exL, List.mem_cons, List.not_mem_nil, or_false] at hc
  refine gE_at h fun a => ?_
  (repeat' (rcases hc with rfl | hc))
  all_goals
    simp [kndT] at k
    subst k
    simp (disch := first | omega | decide +kernel | (simp only [List.length_map, List.length_append, List.length_cons, List.length_nil, List.length_range, List.length_take, List.length_drop, List.length_reverse]; omega)) [-List.map_map, -List.map_set, -List.map_replicate, -List.getD_eq_getElem?_getD, -List.map_append, -List.append_assoc, -List.map_take, -List.map_drop, -List.map_reverse, dDiv_pos, dMod_pos, take_mapD, drop_mapD, rev_mapD, decide_eq_true, decide_eq_false, List.countP_cons, List.findIdx?_cons, dAdd_lst]
    (try rfl)
end Fl

namespace Fl
open Fs
theorem kinds_text : g__law_kinds "NoText" = .ok (.cl (.str "text")) := law_kinds_ok (by simp) (by simp [kndT])
theorem said_set {d : D} (h : g_read_set [d] = .ex "NoText") : g__law_said [.int 0, d] = .ok (.cl (.str "text")) := by
  simp (disch := first | omega | decide +kernel | (simp only [List.length_map, List.length_append, List.length_cons, List.length_nil, List.length_range, List.length_take, List.length_drop, List.length_reverse]; omega)) [-List.map_map, -List.map_set, -List.map_replicate, -List.getD_eq_getElem?_getD, -List.map_append, -List.append_assoc, -List.map_take, -List.map_drop, -List.map_reverse, dDiv_pos, dMod_pos, take_mapD, drop_mapD, rev_mapD, decide_eq_true, decide_eq_false, g__law_said, h, kinds_text]
theorem said_row {d : D} (h : g_read_row [d] = .ex "NoText") : g__law_said [.int 1, d] = .ok (.cl (.str "text")) := by
  simp (disch := first | omega | decide +kernel | (simp only [List.length_map, List.length_append, List.length_cons, List.length_nil, List.length_range, List.length_take, List.length_drop, List.length_reverse]; omega)) [-List.map_map, -List.map_set, -List.map_replicate, -List.getD_eq_getElem?_getD, -List.map_append, -List.append_assoc, -List.map_take, -List.map_drop, -List.map_reverse, dDiv_pos, dMod_pos, take_mapD, drop_mapD, rev_mapD, decide_eq_true, decide_eq_false, g__law_said, h, kinds_text]
theorem told_set {d : D} {r : D} (h : g_read_set [d] = .ok (.cl r)) : g__law_said [.int 0, d] = .ok (.cl (.str "told")) := by
  simp (disch := first | omega | decide +kernel | (simp only [List.length_map, List.length_append, List.length_cons, List.length_nil, List.length_range, List.length_take, List.length_drop, List.length_reverse]; omega)) [-List.map_map, -List.map_set, -List.map_replicate, -List.getD_eq_getElem?_getD, -List.map_append, -List.append_assoc, -List.map_take, -List.map_drop, -List.map_reverse, dDiv_pos, dMod_pos, take_mapD, drop_mapD, rev_mapD, decide_eq_true, decide_eq_false, g__law_said, h]
theorem told_row {d : D} {r : D} (h : g_read_row [d] = .ok (.cl r)) : g__law_said [.int 1, d] = .ok (.cl (.str "told")) := by
  simp (disch := first | omega | decide +kernel | (simp only [List.length_map, List.length_append, List.length_cons, List.length_nil, List.length_range, List.length_take, List.length_drop, List.length_reverse]; omega)) [-List.map_map, -List.map_set, -List.map_replicate, -List.getD_eq_getElem?_getD, -List.map_append, -List.append_assoc, -List.map_take, -List.map_drop, -List.map_reverse, dDiv_pos, dMod_pos, take_mapD, drop_mapD, rev_mapD, decide_eq_true, decide_eq_false, g__law_said, h]
end Fl

-- needs: plain_txt
namespace Fl
open Fs
def strI (i : Int) : PySem.Str := PySem.Str.ofString (toString i)
def joinS (sep : PySem.Str) (xs : List Int) : PySem.Str := PySem.Txt.join sep (xs.map strI)
theorem mem_joinL (S : List Nat) : ∀ {P : List (List Nat)} {c : Nat}, c ∈ TL.joinL S P → c ∈ S ∨ ∃ p ∈ P, c ∈ p
  | [], c, h => by cases h
  | [p], c, h => .inr ⟨p, by simp, h⟩
  | p :: q :: r, c, h => by
    unfold TL.joinL at h
    rcases List.mem_append.mp h with h | h
    · exact .inr ⟨p, by simp, h⟩
    · rcases List.mem_append.mp h with h | h
      · exact .inl h
      · rcases mem_joinL S h with h | ⟨t, ht, h⟩
        · exact .inl h
        · exact .inr ⟨t, List.mem_cons_of_mem _ ht, h⟩
theorem len_joinL (S : List Nat) (b : Nat) : ∀ {P : List (List Nat)}, (∀ p ∈ P, p.length ≤ b) → (TL.joinL S P).length ≤ P.length * (b + S.length)
  | [], _ => by simp [TL.joinL]
  | [p], h => by
    have := h p (by simp)
    show p.length ≤ 1 * (b + S.length)
    omega
  | p :: q :: r, h => by
    have ih := len_joinL S b (P := q :: r) fun t ht => h t (List.mem_cons_of_mem _ ht)
    have h1 := h p (by simp)
    unfold TL.joinL
    rw [List.length_append, List.length_append, List.length_cons, Nat.add_mul, Nat.one_mul]
    omega
theorem sg_len {i : Int} (h : i.natAbs < 10 ^ 60) : (sgL i).length ≤ 61 := by
  have nl : (TL.numL i.natAbs).length ≤ 60 := TL.numL_len (by omega) h
  unfold sgL
  split
  · rw [List.length_cons]; omega
  · omega
theorem tl_joinS (sep : PySem.Str) (xs : List Int) : (joinS sep xs).cps.toList = TL.joinL sep.cps.toList (xs.map sgL) := by
  unfold joinS
  rw [TL.join_eq]
  have := TL.tl_join sep (xs.map strI)
  rw [List.map_map] at this
  have e : xs.map (TL.tl ∘ strI) = xs.map sgL := List.map_congr_left fun i _ => tl_str i
  rw [e] at this
  exact this
/-- written texts: few numbers, of at most sixty figures -/
structure Wr (s : Nat) (sep : PySem.Str) (xs : List Int) : Prop where
  len : xs.length ≤ 200
  fig : ∀ x ∈ xs, x.natAbs < 10 ^ 60
  sp : sep.cps.toList = [s]
  s1 : s < 128
  s2 : s ≠ 45 ∧ (s < 48 ∨ 57 < s)
theorem Wr.size {s : Nat} {sep : PySem.Str} {xs : List Int} (h : Wr s sep xs) : (joinS sep xs).length ≤ 20000 := by
  rw [str_len, tl_joinS]
  have := len_joinL sep.cps.toList 61 (P := xs.map sgL) fun p hp => by
    obtain ⟨i, hi, rfl⟩ := List.mem_map.mp hp
    exact sg_len (h.fig i hi)
  rw [List.length_map, h.sp] at this
  have h2 : xs.length * (61 + [s].length) ≤ 200 * 62 := Nat.mul_le_mul h.len (by simp)
  rw [h.sp]
  omega
theorem Wr.ok {s : Nat} {sep : PySem.Str} {xs : List Int} (h : Wr s sep xs) : PySem.PyData.strOk (joinS sep xs) = true := strOk_of fun c hc => by
  rw [tl_joinS] at hc
  rcases mem_joinL _ hc with hc | ⟨p, hp, hc⟩
  · rw [h.sp] at hc
    rw [List.mem_singleton.mp hc]
    exact h.s1
  · obtain ⟨i, _, rfl⟩ := List.mem_map.mp hp
    have := sgL_ok i c hc
    omega
theorem Wr.split {s : Nat} {sep : PySem.Str} {xs : List Int} (h : Wr s sep xs) (ne : xs ≠ []) : dSplit (.str (joinS sep xs)) (.str sep) = .ok (.ow (.lst (xs.map fun i => D.str (strI i)))) := by
  have hz := h.size
  have e : PySem.Txt.split (joinS sep xs) sep = xs.map strI := by
    unfold joinS
    refine TL.split_join (s := s) (S := []) h.sp ?_ (fun q => ne (List.map_eq_nil_iff.mp q)) fun p hp => ?_
    · rw [← Array.all_toList, h.sp]
      have := h.s1
      simp
      omega
    · obtain ⟨i, _, rfl⟩ := List.mem_map.mp hp
      intro hm
      have hm : s ∈ sgL i := by rw [← tl_str i]; exact hm
      have := sgL_ok i s hm
      have := h.s2
      omega
  have sl : sep.length = 1 := by rw [str_len, h.sp]; rfl
  show (if (sep.length == 0) = false ∧ (joinS sep xs).length + 2 ≤ 16777216 then Out.ok (R.ow (.lst ((PySem.Txt.split (joinS sep xs) sep).map D.str))) else .st) = _
  rw [if_pos ⟨by rw [sl]; rfl, by omega⟩, e, List.map_map]
  rfl
theorem Wr.join {s : Nat} {sep : PySem.Str} {xs : List Int} (h : Wr s sep xs) : dJoin (.str sep) (.lst (xs.map fun i => D.str (strI i))) = .ok (.cl (.str (joinS sep xs))) := by
  have e : (xs.map fun i => D.str (strI i)) = (xs.map strI).map D.str := by rw [List.map_map]; rfl
  have sl : sep.length = 1 := by rw [str_len, h.sp]; rfl
  have sm : ∀ ys : List Int, (∀ x ∈ ys, x.natAbs < 10 ^ 60) → ((ys.map strI).map (·.length)).sum ≤ 61 * ys.length := by
    intro ys
    induction ys with
    | nil => intro _; simp
    | cons y ys ih =>
      intro hy
      have h1 := ih fun x hx => hy x (List.mem_cons_of_mem _ hx)
      have h2 : (strI y).length ≤ 61 := by
        rw [str_len]
        have e0 : (strI y).cps.toList = sgL y := tl_str y
        rw [e0]
        exact sg_len (hy y List.mem_cons_self)
      rw [List.map_cons, List.map_cons, List.sum_cons, List.length_cons]
      omega
  have h1 := sm xs h.fig
  have h2 := h.len
  rw [e]
  simp only [dJoin, strsOf_map]
  rw [if_pos]
  · rfl
  · rw [sl, List.length_map]
    omega
theorem dStr_ok {i : Int} (h : i.natAbs < 10 ^ 60) : dStr (.int i) = .ok (.cl (.str (strI i))) := by
  show (if i.natAbs.log2 < 1920 then Out.ok (R.cl (.str (toString i))) else .st) = _
  refine if_pos ?_
  by_cases z : i.natAbs = 0
  · rw [z]; decide
  · exact (Nat.log2_lt z).mpr (Nat.lt_trans h (by decide +kernel))
end Fl

-- needs: plain_spl plain_jn
namespace Fl
open Fs
/-! texts that write nothing -/
theorem wholeL_sg {i : Int} (hi : i.natAbs < 10 ^ 60) : wholeL (sgL i) = some i := by
  have nl := sg_len hi
  have h1 := whole_in_ok (w := ⟨(sgL i).toArray⟩) (i := i) rfl hi
  have h2 := whole_in_all (w := ⟨(sgL i).toArray⟩) (fun c hc => by have := sgL_ok i c hc; omega) (by rw [str_len]; show (sgL i).length ≤ _; omega)
  rw [h1] at h2
  have e : (⟨(sgL i).toArray⟩ : PySem.Str).cps.toList = sgL i := rfl
  rw [e] at h2
  cases h : wholeL (sgL i) with
  | none => rw [h] at h2; cases h2
  | some j => rw [h] at h2; injection h2 with h2; injection h2 with h2; injection h2 with h2; rw [h2]
theorem sg_num (n : Nat) : sgL (n : Int) = TL.numL n := by
  unfold sgL
  rw [if_neg (by omega)]
  rfl
theorem wholeL_num {n : Nat} (h : n < 10 ^ 60) : wholeL (TL.numL n) = some (n : Int) := by rw [← sg_num]; exact wholeL_sg (by omega)
theorem wholeL_bad {p : List Nat} {c : Nat} (hc : c ∈ p) (h1 : c ≠ 45) (h2 : dgB c = false) : wholeL p = none := by
  have nb : ∀ q : List Nat, c ∈ q → numB q = false := fun q hq => by
    unfold numB
    have : q.all dgB = false := by
      rw [List.all_eq_false]
      exact ⟨c, hq, by rw [h2]; exact Bool.false_ne_true⟩
    rw [this]; simp
  unfold wholeL
  refine if_pos (.inl ?_)
  split
  · rename_i h
    refine nb _ ?_
    cases p with
    | nil => cases hc
    | cons x r =>
      have hx : [x] = [45] := h
      injection hx with hx
      rcases List.mem_cons.mp hc with q | q
      · exact absurd (q.trans hx) h1
      · exact q
  · exact nb _ hc
theorem readSet_sign {l : List Nat} {c : Nat} (hc : c ∈ l) (h1 : c ≠ 45) (h2 : dgB c = false) (h3 : c ≠ 32) : readSetL l = none := by
  obtain ⟨p, hp, q⟩ := in_spl (s := 32) h3 l [] (.inr hc)
  unfold readSetL
  rw [mapM_none hp (wholeL_bad q h1 h2), if_neg]
  intro e
  rw [e] at hc
  exact h1 (List.mem_singleton.mp hc)
theorem readRow_sign {l : List Nat} {c : Nat} (hc : c ∈ l) (h1 : c ≠ 45) (h2 : dgB c = false) (h3 : c ≠ 58) : readRowL l = none := by
  obtain ⟨p, hp, q⟩ := in_spl (s := 58) h3 l [] (.inr hc)
  unfold readRowL
  rw [mapM_none hp (wholeL_bad q h1 h2)]
def shortA (w : PySem.Str) : Bool := w.cps.toList.all (fun c => decide (c < 128)) && decide (w.length ≤ 90000)
theorem shortA_of {w : PySem.Str} (h : shortA w = true) : (∀ c ∈ w.cps.toList, c < 128) ∧ w.length ≤ 90000 := by
  unfold shortA at h
  rw [Bool.and_eq_true, List.all_eq_true] at h
  exact ⟨fun c hc => of_decide_eq_true (h.1 c hc), of_decide_eq_true h.2⟩
theorem set_none {w : PySem.Str} (h : shortA w = true) (r : readSetL w.cps.toList = none) : g_read_set [.str w] = .ex "NoText" := by
  rw [read_set_all (shortA_of h).1 (shortA_of h).2, r]
theorem row_none {w : PySem.Str} (h : shortA w = true) (r : readRowL w.cps.toList = none) : g_read_row [.str w] = .ex "NoText" := by
  rw [read_row_all (shortA_of h).1 (shortA_of h).2, r]
theorem set_some {w : PySem.Str} {xs : List Int} (h : shortA w = true) (r : readSetL w.cps.toList = some xs) : g_read_set [.str w] = .ok (.cl (.tup (xs.map D.int))) := by
  rw [read_set_all (shortA_of h).1 (shortA_of h).2, r]
theorem row_some {w : PySem.Str} {xs : List Int} (h : shortA w = true) (r : readRowL w.cps.toList = some xs) : g_read_row [.str w] = .ok (.cl (.tup (xs.map D.int))) := by
  rw [read_row_all (shortA_of h).1 (shortA_of h).2, r]
/-- closed texts -/
def badSet (w : PySem.Str) : Bool := shortA w && (readSetL w.cps.toList).isNone
def badRow (w : PySem.Str) : Bool := shortA w && (readRowL w.cps.toList).isNone
theorem badSet_of {w : PySem.Str} (h : badSet w = true) : g_read_set [.str w] = .ex "NoText" := by
  unfold badSet at h
  rw [Bool.and_eq_true, Option.isNone_iff_eq_none] at h
  exact set_none h.1 h.2
theorem badRow_of {w : PySem.Str} (h : badRow w = true) : g_read_row [.str w] = .ex "NoText" := by
  unfold badRow at h
  rw [Bool.and_eq_true, Option.isNone_iff_eq_none] at h
  exact row_none h.1 h.2
theorem apS_tl (a b : PySem.Str) : (a ++ b).cps.toList = a.cps.toList ++ b.cps.toList := Array.toList_append
theorem apS_len (a b : PySem.Str) : (a ++ b).length = a.length + b.length := by rw [str_len, apS_tl, List.length_append]; rfl
theorem dAdd_strB {a b : PySem.Str} (h : a.length + b.length ≤ 16777216) : dAdd (.str a) (.str b) = .ok (.cl (.str (a ++ b))) := if_pos h
/-- a good number's text -/
structure Gd (w : PySem.Str) (n : Nat) : Prop where
  tl : w.cps.toList = TL.numL n
  lo : 1 ≤ n
  hi : n ≤ 1000000
theorem Gd.len {w : PySem.Str} {n : Nat} (h : Gd w n) : w.length ≤ 60 := by
  rw [str_len, h.tl]
  exact TL.numL_len (by omega) (Nat.lt_of_le_of_lt h.hi (by decide +kernel))
theorem Gd.asc {w : PySem.Str} {n : Nat} (h : Gd w n) : ∀ c ∈ w.cps.toList, 48 ≤ c ∧ c ≤ 57 := fun c hc => by rw [h.tl] at hc; exact num_ok n c hc
theorem shortA_ap {a b : PySem.Str} (ha : ∀ c ∈ a.cps.toList, c < 128) (hb : ∀ c ∈ b.cps.toList, c < 128) (l1 : a.length ≤ 40000) (l2 : b.length ≤ 40000) : shortA (a ++ b) = true := by
  unfold shortA
  rw [Bool.and_eq_true, List.all_eq_true, apS_tl, apS_len]
  exact ⟨fun c hc => decide_eq_true ((List.mem_append.mp hc).elim (ha c) (hb c)), decide_eq_true (by omega)⟩
theorem mul61 : dMulS (.str (PySem.Str.ofString "1")) (.int 61) = .ok (.cl (.str (repS (PySem.Str.ofString "1") 61))) := by
  show (if 2 ≤ (61 : Int) ∧ (61 : Int) ≤ 1000 ∧ (PySem.Str.ofString "1").length = 1 then cD (.str (repS (PySem.Str.ofString "1") (61 : Int).toNat)) else .st) = _
  rw [if_pos ⟨by omega, by omega, rfl⟩]
  rfl
end Fl

-- needs: plain_bad
namespace Fl
open Fs
def clSets : List PySem.Str := ["", " ", "--", "- ", " -", "- 1", "1 -", "+1", "01", "-0", "1.0", "1,2", "1 1", "2 1", "1  2", " 1", "1 ", "1 2 2", "1 -2", "a", "1;2", "(1 2)", "1/2"]
theorem clSets_bad : clSets.all badSet = true := by decide +kernel
theorem no_sets_ok {w : PySem.Str} {n : Nat} (g : Gd w n) : ∃ ws : List PySem.Str, g__law_no_sets [.str w] = .ok (.ow (.lst (ws.map D.str))) ∧ ws.length = 27 ∧ ∀ v ∈ ws, g_read_set [.str v] = .ex "NoText" := by
  have lw := g.len
  have la := g.asc
  have a1 : dAdd (.str w) (.str (PySem.Str.ofString " 0")) = .ok (.cl (.str (w ++ PySem.Str.ofString " 0"))) := dAdd_strB (by show w.length + 2 ≤ _; omega)
  have a2 : dAdd (.str w) (.str (PySem.Str.ofString "\n")) = .ok (.cl (.str (w ++ PySem.Str.ofString "\n"))) := dAdd_strB (by show w.length + 1 ≤ _; omega)
  have a3 : dAdd (.str (PySem.Str.ofString "0 ")) (.str w) = .ok (.cl (.str (PySem.Str.ofString "0 " ++ w))) := dAdd_strB (by show 2 + w.length ≤ _; omega)
  have a4 : dAdd (.str (PySem.Str.ofString "0 " ++ w)) (.str (PySem.Str.ofString "x")) = .ok (.cl (.str (PySem.Str.ofString "0 " ++ w ++ PySem.Str.ofString "x"))) := dAdd_strB (by rw [apS_len]; show 2 + w.length + 1 ≤ _; omega)
  have a5 : dMulS (.str (PySem.Str.ofString "1")) (.int 61) = .ok (.cl (.str (repS (PySem.Str.ofString "1") 61))) := mul61
  refine ⟨clSets ++ [w ++ PySem.Str.ofString " 0", w ++ PySem.Str.ofString "\n", PySem.Str.ofString "0 " ++ w ++ PySem.Str.ofString "x", repS (PySem.Str.ofString "1") 61], ?_, rfl, ?_⟩
  · simp only [g__law_no_sets, gFun_eq]
    apply ret_eq
    simp (disch := first | omega | decide +kernel | (simp only [List.length_map, List.length_append, List.length_cons, List.length_nil, List.length_range, List.length_take, List.length_drop, List.length_reverse]; omega)) [-List.map_map, -List.map_set, -List.map_replicate, -List.getD_eq_getElem?_getD, -List.map_append, -List.append_assoc, -List.map_take, -List.map_drop, -List.map_reverse, dDiv_pos, dMod_pos, take_mapD, drop_mapD, rev_mapD, decide_eq_true, decide_eq_false, a1, a2, a3, a4, a5, dAdd_lst]
    rfl
  · intro v hv
    rcases List.mem_append.mp hv with h | h
    · exact badSet_of (List.all_eq_true.mp clSets_bad v h)
    · simp only [List.mem_cons, List.not_mem_nil, or_false] at h
      rcases h with rfl | rfl | rfl | rfl
      · refine set_none (shortA_ap (fun c hc => by have := la c hc; omega) (by decide +kernel) (by omega) (by decide +kernel)) ?_
        have e : (w ++ PySem.Str.ofString " 0").cps.toList = TL.numL n ++ (32 :: [] ++ [48]) := by rw [apS_tl, g.tl]; rfl
        rw [e]
        have sp : TL.spl [32] 0 [] (TL.numL n ++ (32 :: [] ++ [48])) = [TL.numL n, [48]] := by
          rw [TL.spl_part1 (TL.numL_free (by omega)), TL.spl_last1 (by decide)]
          rfl
        unfold readSetL
        rw [sp, List.mapM_cons, List.mapM_cons, wholeL_num (Nat.lt_of_le_of_lt g.hi (by decide +kernel)), show wholeL [48] = some 0 by decide +kernel]
        have lo := g.lo
        have np : ¬ ([(n : Int), 0].Pairwise (· < ·)) := by
          simp
        rw [if_neg (by
          intro q
          have := congrArg List.length q
          simp at this)]
        show (if decide ([(n : Int), 0].Pairwise (· < ·)) && decide ([(n : Int), 0].length ≤ 60) then some [(n : Int), 0] else none) = none
        rw [decide_eq_false np]
        rfl
      · exact set_none (shortA_ap (fun c hc => by have := la c hc; omega) (by decide +kernel) (by omega) (by decide +kernel)) (readSet_sign (c := 10) (by rw [apS_tl]; exact List.mem_append_right _ (by decide +kernel)) (by decide) (by decide) (by decide))
      · refine set_none (shortA_ap (fun c hc => ?_) (by decide +kernel) (by rw [apS_len]; show 2 + w.length ≤ _; omega) (by decide +kernel)) (readSet_sign (c := 120) (by rw [apS_tl]; exact List.mem_append_right _ (by decide +kernel)) (by decide) (by decide) (by decide))
        rw [apS_tl] at hc
        rcases List.mem_append.mp hc with hc | hc
        · have : ∀ c ∈ (PySem.Str.ofString "0 ").cps.toList, c < 128 := by decide +kernel
          exact this c hc
        · have := la c hc; omega
      · exact badSet_of (by decide +kernel)
end Fl

-- needs: plain_bad
namespace Fl
open Fs
def clRows : List PySem.Str := ["", ":", "::", "1", "1:2", "1:2:3:4", "0:0:1", "0:-1:1", "0:1:0", "0:1:-1", "0:1: 1", " 0:1:1", "0:1:1 ", "00:1:1", "-0:1:1", "0:01:1", "+0:1:1", "0;1;1", "0 1 1", "a:1:1", "0:b:1", "0:1:c", "-"]
theorem clRows_bad : clRows.all badRow = true := by decide +kernel
def rowS (w : PySem.Str) : PySem.Str := PySem.Str.ofString "-3:" ++ w ++ PySem.Str.ofString ":7"
theorem rowS_tl {w : PySem.Str} {n : Nat} (g : Gd w n) : (rowS w).cps.toList = [45, 51] ++ (58 :: [] ++ (TL.numL n ++ (58 :: [] ++ [55]))) := by
  unfold rowS
  rw [apS_tl, apS_tl, g.tl]
  show [45, 51, 58] ++ TL.numL n ++ [58, 55] = _
  rw [List.append_assoc]
  rfl
theorem rowS_asc {w : PySem.Str} {n : Nat} (g : Gd w n) : ∀ c ∈ (rowS w).cps.toList, c < 128 := fun c hc => by
  unfold rowS at hc
  rw [apS_tl, apS_tl] at hc
  rcases List.mem_append.mp hc with hc | hc
  · rcases List.mem_append.mp hc with hc | hc
    · have : ∀ c ∈ (PySem.Str.ofString "-3:").cps.toList, c < 128 := by decide +kernel
      exact this c hc
    · have := g.asc c hc; omega
  · have : ∀ c ∈ (PySem.Str.ofString ":7").cps.toList, c < 128 := by decide +kernel
    exact this c hc
theorem rowS_len {w : PySem.Str} {n : Nat} (g : Gd w n) : (rowS w).length ≤ 100 := by
  have := g.len
  unfold rowS
  rw [apS_len, apS_len]
  show 3 + w.length + 2 ≤ 100
  omega
theorem row_good {w : PySem.Str} {n : Nat} (g : Gd w n) : g_read_row [.str (rowS w)] = .ok (.cl (.tup ([-3, (n : Int), 7].map D.int))) := by
  have s0 : shortA (rowS w) = true := by
    unfold shortA
    rw [Bool.and_eq_true, List.all_eq_true]
    have := rowS_len g
    exact ⟨fun c hc => decide_eq_true (rowS_asc g c hc), decide_eq_true (by omega)⟩
  refine row_some s0 ?_
  have sp : TL.spl [58] 0 [] (rowS w).cps.toList = [[45, 51], TL.numL n, [55]] := by
    rw [rowS_tl g, TL.spl_part1 (by decide), TL.spl_part1 (TL.numL_free (by omega)), TL.spl_last1 (by decide)]
    rfl
  unfold readRowL
  rw [sp, List.mapM_cons, List.mapM_cons, List.mapM_cons, wholeL_num (Nat.lt_of_le_of_lt g.hi (by decide +kernel)), show wholeL [45, 51] = some (-3) by decide +kernel, show wholeL [55] = some 7 by decide +kernel]
  show (if isRowB (.tup [.int (-3), .int (n : Int), .int 7]) = true then some [-3, (n : Int), 7] else none) = _
  have lo := g.lo
  rw [if_pos]
  show (decide ((1 : Int) ≤ n) && decide ((1 : Int) ≤ 7)) = true
  rw [decide_eq_true (by omega)]
  rfl
theorem no_rows_ok {w : PySem.Str} {n : Nat} (g : Gd w n) : ∃ ws : List PySem.Str, g__law_no_rows [.str (rowS w)] = .ok (.ow (.lst (ws.map D.str))) ∧ ws.length = 27 ∧ ∀ v ∈ ws, g_read_row [.str v] = .ex "NoText" := by
  have lr := rowS_len g
  have lw := g.len
  have a0 : dAdd (.str (PySem.Str.ofString "0:1:")) (.str (repS (PySem.Str.ofString "1") 61)) = .ok (.cl (.str (PySem.Str.ofString "0:1:" ++ repS (PySem.Str.ofString "1") 61))) := dAdd_strB (by decide +kernel)
  have a1 : dAdd (.str (rowS w)) (.str (PySem.Str.ofString ":1")) = .ok (.cl (.str (rowS w ++ PySem.Str.ofString ":1"))) := dAdd_strB (by show (rowS w).length + 2 ≤ _; omega)
  have a2 : dAdd (.str (rowS w)) (.str (PySem.Str.ofString "\n")) = .ok (.cl (.str (rowS w ++ PySem.Str.ofString "\n"))) := dAdd_strB (by show (rowS w).length + 1 ≤ _; omega)
  have a3 : dAdd (.str (rowS w)) (.str (PySem.Str.ofString ",2")) = .ok (.cl (.str (rowS w ++ PySem.Str.ofString ",2"))) := dAdd_strB (by show (rowS w).length + 2 ≤ _; omega)
  have a5 := mul61
  refine ⟨clRows ++ [PySem.Str.ofString "0:1:" ++ repS (PySem.Str.ofString "1") 61, rowS w ++ PySem.Str.ofString ":1", rowS w ++ PySem.Str.ofString "\n", rowS w ++ PySem.Str.ofString ",2"], ?_, rfl, ?_⟩
  · simp only [g__law_no_rows, gFun_eq]
    apply ret_eq
    simp (disch := first | omega | decide +kernel | (simp only [List.length_map, List.length_append, List.length_cons, List.length_nil, List.length_range, List.length_take, List.length_drop, List.length_reverse]; omega)) [-List.map_map, -List.map_set, -List.map_replicate, -List.getD_eq_getElem?_getD, -List.map_append, -List.append_assoc, -List.map_take, -List.map_drop, -List.map_reverse, dDiv_pos, dMod_pos, take_mapD, drop_mapD, rev_mapD, decide_eq_true, decide_eq_false, a0, a1, a2, a3, a5, dAdd_lst]
    rfl
  · intro v hv
    rcases List.mem_append.mp hv with h | h
    · exact badRow_of (List.all_eq_true.mp clRows_bad v h)
    · simp only [List.mem_cons, List.not_mem_nil, or_false] at h
      rcases h with rfl | rfl | rfl | rfl
      · exact badRow_of (by decide +kernel)
      · refine row_none (shortA_ap (rowS_asc g) (by decide +kernel) (by omega) (by decide +kernel)) ?_
        have e : (rowS w ++ PySem.Str.ofString ":1").cps.toList = [45, 51] ++ (58 :: [] ++ (TL.numL n ++ (58 :: [] ++ ([55] ++ (58 :: [] ++ [49]))))) := by
          rw [apS_tl, rowS_tl g]
          show [45, 51] ++ ([58] ++ (TL.numL n ++ ([58] ++ [55]))) ++ [58, 49] = _
          simp only [List.append_assoc]
          rfl
        have sp : TL.spl [58] 0 [] (rowS w ++ PySem.Str.ofString ":1").cps.toList = [[45, 51], TL.numL n, [55], [49]] := by
          rw [e, TL.spl_part1 (by decide), TL.spl_part1 (TL.numL_free (by omega)), TL.spl_part1 (by decide), TL.spl_last1 (by decide)]
          rfl
        unfold readRowL
        rw [sp, List.mapM_cons, List.mapM_cons, List.mapM_cons, List.mapM_cons, wholeL_num (Nat.lt_of_le_of_lt g.hi (by decide +kernel)), show wholeL [45, 51] = some (-3) by decide +kernel, show wholeL [55] = some 7 by decide +kernel, show wholeL [49] = some 1 by decide +kernel]
        rfl
      · exact row_none (shortA_ap (rowS_asc g) (by decide +kernel) (by omega) (by decide +kernel)) (readRow_sign (c := 10) (by rw [apS_tl]; exact List.mem_append_right _ (by decide +kernel)) (by decide) (by decide) (by decide))
      · exact row_none (shortA_ap (rowS_asc g) (by decide +kernel) (by omega) (by decide +kernel)) (readRow_sign (c := 44) (by rw [apS_tl]; exact List.mem_append_right _ (by decide +kernel)) (by decide) (by decide) (by decide))
end Fl

-- needs: plain_bad
namespace Fl
open Fs
def sixL : List Int := (List.range 61).map fun k : Nat => (k : Int)
def sixS : PySem.Str := joinS (PySem.Str.ofString " ") sixL
theorem sixW : Wr 32 (PySem.Str.ofString " ") sixL := ⟨by decide +kernel, by decide +kernel, rfl, by decide, by decide⟩
theorem six_tl : sixS.cps.toList = TL.joinL [32] (sixL.map sgL) := tl_joinS _ _
theorem six_len : sixS.length = 172 := by rw [str_len, six_tl]; decide +kernel
theorem six_asc : ∀ c ∈ sixS.cps.toList, c < 128 := by rw [six_tl]; decide +kernel
theorem six_bad : g_read_set [.str sixS] = .ex "NoText" := by
  rw [read_set_all six_asc (by rw [six_len]; omega), six_tl, show readSetL (TL.joinL [32] (sixL.map sgL)) = none by decide +kernel]
def cut60 : PySem.Str := L2.cutS sixS none (some (-3))
theorem cut_tl : cut60.cps.toList = (TL.joinL [32] (sixL.map sgL)).take 169 := by
  unfold cut60 L2.cutS HT.sIx
  rw [six_tl, six_len]
  simp
theorem cut_ok : ∃ r, g_read_set [.str cut60] = .ok (.cl r) := by
  have h : readSetL ((TL.joinL [32] (sixL.map sgL)).take 169) = some ((List.range 60).map fun k : Nat => (k : Int)) := by decide +kernel
  refine ⟨.tup (((List.range 60).map fun k : Nat => (k : Int)).map D.int), ?_⟩
  rw [read_set_all (by rw [cut_tl]; decide +kernel) (by rw [str_len, cut_tl]; decide +kernel), cut_tl, h]
theorem ne_txt (a b : PySem.Str) (ha : PySem.PyData.strOk a = true) (hb : PySem.PyData.strOk b = true) (h : decide (a = b) = true) : dNe (.str a) (.str b) = .ok (.cl (.bl false)) := by
  rw [dNe_str ha hb, h]; rfl
theorem cut_str {w : PySem.Str} (h : w.length ≤ 16777216) (lo hi : Option Int) : dCut (.str w) lo hi = .ok (.cl (.str (L2.cutS w lo hi))) := if_pos h
theorem mul_lst {a : D} {k : Int} (h : k ≤ 1000) (h0 : 0 ≤ k) : dMul (.lst [a]) (.int k) = .ok (.ow (.lst (List.replicate k.toNat a))) := by
  show (if [a].length * k.toNat ≤ 16777216 ∧ k < 2 ^ 63 ∧ -(2 ^ 63) ≤ k then oD (.lst (List.replicate k.toNat [a]).flatten) else .st) = _
  rw [if_pos ⟨by simp; omega, by omega, by omega⟩]
  simp
theorem ne_lst (l : D) (h : pyOk l = true) (k : deq l l = true) : dNe l l = .ok (.cl (.bl false)) := by
  show (if pyOk l && pyOk l then cB (!deq l l) else .st) = _
  rw [h, k]; rfl
def I82 (ns : List Int) (c : Int) (w : PySem.Str) (ws vs : List PySem.Str) (e : Fs.Env) : Prop := ∃ s5 s6 s7 s8 s9 s10, e = [.sh (.scr ns), .sh (.int c), .sh (.str w), .ow (.lst [.str w, .str (rowS w)]), .ow (.lst [.lst (ws.map D.str), .lst (vs.map D.str)]), s5, s6, s7, s8, s9, s10]
theorem law_pure (ns : List Int) (hl : ns.length ≤ 63) : g_law [.scr ns] = .ok (.cl (.bl true)) := by
  have nt := ne_txt (PySem.Str.ofString "text") (PySem.Str.ofString "text") (by decide +kernel) (by decide +kernel) (by decide +kernel)
  have nd := ne_txt (PySem.Str.ofString "told") (PySem.Str.ofString "told") (by decide +kernel) (by decide +kernel) (by decide +kernel)
  simp only [g_law, gFun_eq]
  apply ret_eq
  simp (disch := first | omega | decide +kernel | (simp only [List.length_map, List.length_append, List.length_cons, List.length_nil, List.length_range, List.length_take, List.length_drop, List.length_reverse]; omega)) [-List.map_map, -List.map_set, -List.map_replicate, -List.getD_eq_getElem?_getD, -List.map_append, -List.append_assoc, -List.map_take, -List.map_drop, -List.map_reverse, dDiv_pos, dMod_pos, take_mapD, drop_mapD, rev_mapD, decide_eq_true, decide_eq_false, cells2, hl]
  refine wp_for (fun _ e => ∃ s1 s2 s3 s4 s5 s6 s7 s8 s9 s10, e = [.sh (.scr ns), s1, s2, s3, s4, s5, s6, s7, s8, s9, s10]) ⟨_, _, _, _, _, _, _, _, _, _, rfl⟩ ?_ ?_
  · rintro _ c _ _ _ ⟨s1, s2, s3, s4, s5, s6, s7, s8, s9, s10, rfl⟩
    have d1 := dr_all (c := c) (k := 1) (b := 1000000) (by omega) (by omega) (by omega) (by omega)
    have d2 := dr_all (c := c) (k := 2) (b := 27) (by omega) (by omega) (by omega) (by omega)
    have d3 := dr_all (c := c) (k := 3) (b := 27) (by omega) (by omega) (by omega) (by omega)
    have d4 := dr_all (c := c) (k := 4) (b := 7) (by omega) (by omega) (by omega) (by omega)
    generalize dr c 1 1000000 = p at *
    generalize dr c 2 27 = i2 at *
    generalize dr c 3 27 = i3 at *
    generalize dr c 4 7 = i4 at *
    have hp : (1 + p).natAbs < 10 ^ 60 := by omega
    have st := dStr_ok hp
    have g : Gd (strI (1 + p)) (1 + p).toNat := by
      refine ⟨?_, by omega, by omega⟩
      have e : (strI (1 + p)).cps.toList = sgL (1 + p) := tl_str _
      rw [e, ← sg_num, Int.toNat_of_nonneg (by omega)]
    generalize strI (1 + p) = w at *
    have lw := g.len
    have a1 : dAdd (.str (PySem.Str.ofString "-3:")) (.str w) = .ok (.cl (.str (PySem.Str.ofString "-3:" ++ w))) := dAdd_strB (by show 3 + w.length ≤ _; omega)
    have a2 : dAdd (.str (PySem.Str.ofString "-3:" ++ w)) (.str (PySem.Str.ofString ":7")) = .ok (.cl (.str (rowS w))) := dAdd_strB (by rw [apS_len]; show 3 + w.length + 2 ≤ _; omega)
    obtain ⟨ws, e1, l1, b1⟩ := no_sets_ok g
    obtain ⟨vs, e2, l2, b2⟩ := no_rows_ok g
    have ts : ∃ r, g_read_set [.str w] = .ok (.cl r) := by
      refine ⟨_, set_some (xs := [((1 + p).toNat : Int)]) ?_ ?_⟩
      · unfold shortA
        rw [Bool.and_eq_true, List.all_eq_true]
        exact ⟨fun c hc => decide_eq_true (by have := g.asc c hc; omega), decide_eq_true (by omega)⟩
      · have sp : TL.spl [32] 0 [] (TL.numL (1 + p).toNat) = [TL.numL (1 + p).toNat] := TL.spl_last1 (TL.numL_free (by omega))
        unfold readSetL
        rw [g.tl, sp, List.mapM_cons, wholeL_num (Nat.lt_of_le_of_lt g.hi (by decide +kernel)), if_neg (by
          intro q
          have := num_ok (1 + p).toNat 45 (by rw [q]; exact List.mem_cons_self)
          omega)]
        rfl
    obtain ⟨r1, t1⟩ := ts
    have q1 := told_set t1
    have q2 := told_row (row_good g)
    have x0 : L2.atI [D.str w, D.str (rowS w)] 1 = some (.str (rowS w)) := rfl
    simp (disch := first | omega | decide +kernel | (simp only [List.length_map, List.length_append, List.length_cons, List.length_nil, List.length_range, List.length_take, List.length_drop, List.length_reverse]; omega)) [-List.map_map, -List.map_set, -List.map_replicate, -List.getD_eq_getElem?_getD, -List.map_append, -List.append_assoc, -List.map_take, -List.map_drop, -List.map_reverse, dDiv_pos, dMod_pos, take_mapD, drop_mapD, rev_mapD, decide_eq_true, decide_eq_false, d1.1, st, a1, a2, e1, e2, x0]
    refine wp_ran_end (fun _ => I82 ns c w ws vs) ⟨_, _, _, _, _, _, rfl⟩ ?_ ?_
    · rintro n _ hn ⟨s5, s6, s7, s8, s9, s10, rfl⟩
      have y0 : L2.atI [D.lst (ws.map D.str), D.lst (vs.map D.str)] 0 = some (.lst (ws.map D.str)) := rfl
      have y1 : L2.atI [D.lst (ws.map D.str), D.lst (vs.map D.str)] 1 = some (.lst (vs.map D.str)) := rfl
      have x1 : L2.atI [D.str w, D.str (rowS w)] 0 = some (.str w) := rfl
      have odd : ∀ v ∈ [D.non, .int 5, .bl true, .lst [.str (PySem.Str.ofString "1")], .tup [.str (PySem.Str.ofString "1")], .tup [], .dct []], isaB "str" v = false := by
        intro v hv
        simp only [List.mem_cons, List.not_mem_nil, or_false] at hv
        rcases hv with rfl | rfl | rfl | rfl | rfl | rfl | rfl <;> simp
      obtain ⟨z, hz, ez⟩ := atI_mem (xs := [D.non, .int 5, .bl true, .lst [.str (PySem.Str.ofString "1")], .tup [.str (PySem.Str.ofString "1")], .tup [], .dct []]) d4.2.1 (by simp; omega)
      rcases (show n = 0 ∨ n = 1 by omega) with rfl | rfl
      · obtain ⟨v, hv, ev⟩ := atI_mem (xs := ws.map D.str) d2.2.1 (by rw [List.length_map]; omega)
        obtain ⟨u, hu, rfl⟩ := List.mem_map.mp hv
        have k1 := said_set (b1 u hu)
        have k2 := said_set (read_set_odd (odd z hz))
        simp (disch := first | omega | decide +kernel | (simp only [List.length_map, List.length_append, List.length_cons, List.length_nil, List.length_range, List.length_take, List.length_drop, List.length_reverse]; omega)) [-List.map_map, -List.map_set, -List.map_replicate, -List.getD_eq_getElem?_getD, -List.map_append, -List.append_assoc, -List.map_take, -List.map_drop, -List.map_reverse, dDiv_pos, dMod_pos, take_mapD, drop_mapD, rev_mapD, decide_eq_true, decide_eq_false, y0, l1, d2.1, ev, d4.1, ez, k1, k2, nt, x1, q1, nd]
        exact ⟨_, _, _, _, _, _, rfl⟩
      · obtain ⟨v, hv, ev⟩ := atI_mem (xs := vs.map D.str) d3.2.1 (by rw [List.length_map]; omega)
        obtain ⟨u, hu, rfl⟩ := List.mem_map.mp hv
        have k1 := said_row (b2 u hu)
        have k2 := said_row (read_row_odd (odd z hz))
        simp (disch := first | omega | decide +kernel | (simp only [List.length_map, List.length_append, List.length_cons, List.length_nil, List.length_range, List.length_take, List.length_drop, List.length_reverse]; omega)) [-List.map_map, -List.map_set, -List.map_replicate, -List.getD_eq_getElem?_getD, -List.map_append, -List.append_assoc, -List.map_take, -List.map_drop, -List.map_reverse, dDiv_pos, dMod_pos, take_mapD, drop_mapD, rev_mapD, decide_eq_true, decide_eq_false, y1, l2, d3.1, ev, d4.1, ez, k1, k2, nt, x0, q2, nd]
        exact ⟨_, _, _, _, _, _, rfl⟩
    · rintro _ ⟨s5, s6, s7, s8, s9, s10, rfl⟩
      exact ⟨_, _, _, _, _, _, _, _, _, _, rfl⟩
  · rintro _ ⟨s1, s2, s3, s4, s5, s6, s7, s8, s9, s10, rfl⟩
    have k1 := said_set (badSet_of (w := "1\n2") (by decide +kernel))
    have k2 := said_set (badSet_of (w := "1	2") (by decide +kernel))
    have k3 := said_set (badSet_of (w := "1 2\n3") (by decide +kernel))
    have k4 := said_set (badSet_of (w := "-\n") (by decide +kernel))
    have k5 := said_row (badRow_of (w := "0:1\n1") (by decide +kernel))
    have k6 := said_row (badRow_of (w := "0	1:1") (by decide +kernel))
    have k7 := said_row (badRow_of (w := "0:1:1\n") (by decide +kernel))
    have k8 := told_row (row_some (w := "0:1:61") (xs := [0, 1, 61]) (by decide +kernel) (by decide +kernel))
    have k9 := said_set six_bad
    obtain ⟨r, hr⟩ := cut_ok
    have k10 := told_set hr
    have cs : cmpO (fun _ => Out.ok true) (fun x : Nat => dStr (.int (x : Int))) (List.range 61) = .ok (sixL.map fun i => D.str (strI i)) := by
      have := cmpO_map (c := fun _ => Out.ok true) (f := fun x : Nat => dStr (.int (x : Int))) (xs := List.range 61) (fun k : Nat => D.str (strI (k : Int))) (fun _ _ => rfl) fun x hx => .inl (dStr_ok (by have := List.mem_range.mp hx; omega))
      rw [this]
      unfold sixL
      rw [List.map_map]
      rfl
    have jn : dJoin (.str (PySem.Str.ofString " ")) (.lst (sixL.map fun i => D.str (strI i))) = .ok (.cl (.str sixS)) := sixW.join
    have ct : dCut (.str sixS) none (some (-3)) = .ok (.cl (.str cut60)) := cut_str (by rw [six_len]; omega) _ _
    have m1 : cmpO (fun _ => Out.ok true) (fun x => g__law_said [.int 0, x]) [D.str (PySem.Str.ofString "1\n2"), D.str (PySem.Str.ofString "1	2"), D.str (PySem.Str.ofString "1 2\n3"), D.str (PySem.Str.ofString "-\n")] = .ok (List.replicate 4 (D.str (PySem.Str.ofString "text"))) := by
      rw [cmpO_map (fun _ => D.str (PySem.Str.ofString "text")) (fun _ _ => rfl) fun x hx => ?_]
      · rfl
      · simp only [List.mem_cons, List.not_mem_nil, or_false] at hx
        rcases hx with rfl | rfl | rfl | rfl
        · exact .inl k1
        · exact .inl k2
        · exact .inl k3
        · exact .inl k4
    have m2 : cmpO (fun _ => Out.ok true) (fun x => g__law_said [.int 1, x]) [D.str (PySem.Str.ofString "0:1\n1"), D.str (PySem.Str.ofString "0	1:1"), D.str (PySem.Str.ofString "0:1:1\n")] = .ok (List.replicate 3 (D.str (PySem.Str.ofString "text"))) := by
      rw [cmpO_map (fun _ => D.str (PySem.Str.ofString "text")) (fun _ _ => rfl) fun x hx => ?_]
      · rfl
      · simp only [List.mem_cons, List.not_mem_nil, or_false] at hx
        rcases hx with rfl | rfl | rfl
        · exact .inl k5
        · exact .inl k6
        · exact .inl k7
    have aa : dAdd (.lst (List.replicate 4 (D.str (PySem.Str.ofString "text")))) (.lst (List.replicate 3 (D.str (PySem.Str.ofString "text")))) = .ok (.ow (.lst (List.replicate 7 (D.str (PySem.Str.ofString "text"))))) := dAdd_lst (by simp)
    have mm : dMul (.lst [D.str (PySem.Str.ofString "text")]) (.int 7) = .ok (.ow (.lst (List.replicate 7 (D.str (PySem.Str.ofString "text"))))) := mul_lst (by omega) (by omega)
    have n7 : dNe (.lst (List.replicate 7 (D.str (PySem.Str.ofString "text")))) (.lst (List.replicate 7 (D.str (PySem.Str.ofString "text")))) = .ok (.cl (.bl false)) := ne_lst _ (by decide +kernel) (by decide +kernel)
    generalize List.replicate 7 (D.str (PySem.Str.ofString "text")) = T7 at *
    generalize List.replicate 4 (D.str (PySem.Str.ofString "text")) = T4 at *
    generalize List.replicate 3 (D.str (PySem.Str.ofString "text")) = T3 at *
    have et := dEq_str (a := PySem.Str.ofString "text") (b := PySem.Str.ofString "text") (by decide +kernel) (by decide +kernel)
    have ed := dEq_str (a := PySem.Str.ofString "told") (b := PySem.Str.ofString "told") (by decide +kernel) (by decide +kernel)
    rw [decide_eq_true rfl] at et ed
    generalize sixS = S6 at *
    generalize cut60 = C6 at *
    generalize sixL = L6 at *
    simp (disch := first | omega | decide +kernel | (simp only [List.length_map, List.length_append, List.length_cons, List.length_nil, List.length_range, List.length_take, List.length_drop, List.length_reverse]; omega)) [-List.map_map, -List.map_set, -List.map_replicate, -List.getD_eq_getElem?_getD, -List.map_append, -List.append_assoc, -List.map_take, -List.map_drop, -List.map_reverse, dDiv_pos, dMod_pos, take_mapD, drop_mapD, rev_mapD, decide_eq_true, decide_eq_false, m1, m2, aa, mm, n7, smallI_of, cs, jn, k9, ct, k10, k8, et, ed]
end Fl

set_option maxHeartbeats 4000000
namespace Fl
open PySem PySem.Spec PyProof.Rows L2 Fs
def topS (i : Nat) : Stmt := PySem.Challenge.pw_fewsumlots_k82_no_texts.main.body.getD i (.Pass ⟨0, 0, 0, 0⟩)
abbrev sIsWhole : Stmt := topS 12
abbrev NIsWhole : List Str := ["thing"]
abbrev PIsWhole : List Str := ["thing"]
theorem scIsWhole : FnScope NIsWhole PIsWhole (defScope sIsWhole) := ⟨rfl, rfl, rfl, by decide +kernel, rfl, by decide +kernel, by decide +kernel⟩
abbrev sIsSet : Stmt := topS 13
abbrev NIsSet : List Str := ["thing", "one", "k"]
abbrev PIsSet : List Str := ["thing"]
theorem scIsSet : FnScope NIsSet PIsSet (defScope sIsSet) := ⟨rfl, rfl, rfl, by decide +kernel, rfl, by decide +kernel, by decide +kernel⟩
abbrev sIsRow : Stmt := topS 15
abbrev NIsRow : List Str := ["thing", "one"]
abbrev PIsRow : List Str := ["thing"]
theorem scIsRow : FnScope NIsRow PIsRow (defScope sIsRow) := ⟨rfl, rfl, rfl, by decide +kernel, rfl, by decide +kernel, by decide +kernel⟩
abbrev sIsNumber : Stmt := topS 19
abbrev NIsNumber : List Str := ["word", "sign"]
abbrev PIsNumber : List Str := ["word"]
theorem scIsNumber : FnScope NIsNumber PIsNumber (defScope sIsNumber) := ⟨rfl, rfl, rfl, by decide +kernel, rfl, by decide +kernel, by decide +kernel⟩
abbrev sWholeIn : Stmt := topS 20
abbrev NWholeIn : List Str := ["word", "rest"]
abbrev PWholeIn : List Str := ["word"]
theorem scWholeIn : FnScope NWholeIn PWholeIn (defScope sWholeIn) := ⟨rfl, rfl, rfl, by decide +kernel, rfl, by decide +kernel, by decide +kernel⟩
abbrev sCheckText : Stmt := topS 21
abbrev NCheckText : List Str := ["thing"]
abbrev PCheckText : List Str := ["thing"]
theorem scCheckText : FnScope NCheckText PCheckText (defScope sCheckText) := ⟨rfl, rfl, rfl, by decide +kernel, rfl, by decide +kernel, by decide +kernel⟩
abbrev sReadSet : Stmt := topS 22
abbrev NReadSet : List Str := ["text", "found", "word"]
abbrev PReadSet : List Str := ["text"]
theorem scReadSet : FnScope NReadSet PReadSet (defScope sReadSet) := ⟨rfl, rfl, rfl, by decide +kernel, rfl, by decide +kernel, by decide +kernel⟩
abbrev sReadRow : Stmt := topS 23
abbrev NReadRow : List Str := ["text", "found", "word"]
abbrev PReadRow : List Str := ["text"]
theorem scReadRow : FnScope NReadRow PReadRow (defScope sReadRow) := ⟨rfl, rfl, rfl, by decide +kernel, rfl, by decide +kernel, by decide +kernel⟩
abbrev sLLawDraw : Stmt := topS 26
abbrev NLLawDraw : List Str := ["_law_cell", "_law_k", "_law_bound", "_law_left", "_law_j", "_law_stir"]
abbrev PLLawDraw : List Str := ["_law_cell", "_law_k", "_law_bound"]
theorem scLLawDraw : FnScope NLLawDraw PLLawDraw (defScope sLLawDraw) := ⟨rfl, rfl, rfl, by decide +kernel, rfl, by decide +kernel, by decide +kernel⟩
abbrev sLLawKinds : Stmt := topS 27
abbrev NLLawKinds : List Str := ["_law_e", "_law_kinds_here", "_law_names"]
abbrev PLLawKinds : List Str := ["_law_e"]
theorem scLLawKinds : FnScope NLLawKinds PLLawKinds (defScope sLLawKinds) := ⟨rfl, rfl, rfl, by decide +kernel, rfl, by decide +kernel, by decide +kernel⟩
abbrev sLLawSaid : Stmt := topS 28
abbrev NLLawSaid : List Str := ["_law_way", "_law_text", "_law_e"]
abbrev PLLawSaid : List Str := ["_law_way", "_law_text"]
theorem scLLawSaid : FnScope NLLawSaid PLLawSaid (defScope sLLawSaid) := ⟨rfl, rfl, rfl, by decide +kernel, rfl, by decide +kernel, by decide +kernel⟩
abbrev sLLawNoSets : Stmt := topS 29
abbrev NLLawNoSets : List Str := ["_law_good", "_law_some"]
abbrev PLLawNoSets : List Str := ["_law_good"]
theorem scLLawNoSets : FnScope NLLawNoSets PLLawNoSets (defScope sLLawNoSets) := ⟨rfl, rfl, rfl, by decide +kernel, rfl, by decide +kernel, by decide +kernel⟩
abbrev sLLawNoRows : Stmt := topS 30
abbrev NLLawNoRows : List Str := ["_law_good", "_law_some"]
abbrev PLLawNoRows : List Str := ["_law_good"]
theorem scLLawNoRows : FnScope NLLawNoRows PLLawNoRows (defScope sLLawNoRows) := ⟨rfl, rfl, rfl, by decide +kernel, rfl, by decide +kernel, by decide +kernel⟩
abbrev sLaw : Stmt := topS 31
abbrev NLaw : List Str := ["_law_script", "_law_cell", "_law_number", "_law_goods", "_law_bads", "_law_way", "_law_text", "_law_odd", "_law_tails", "_law_sixty", "_law_k"]
abbrev PLaw : List Str := ["_law_script"]
theorem scLaw : FnScope NLaw PLaw (defScope sLaw) := ⟨rfl, rfl, rfl, by decide +kernel, rfl, by decide +kernel, by decide +kernel⟩
/-- what the top has written -/
structure Top (K : PySem.W.Frag) (mg : Str → Option Value) where
  a_is_whole : Addr
  d_is_whole : FuncData
  F_is_whole : Fun K "is_whole" "is_whole" sIsWhole a_is_whole d_is_whole
  g_is_whole : mg "is_whole" = some (.ref a_is_whole)
  b_is_whole : Binds K d_is_whole PIsWhole []
  a_is_set : Addr
  d_is_set : FuncData
  F_is_set : Fun K "is_set" "is_set" sIsSet a_is_set d_is_set
  g_is_set : mg "is_set" = some (.ref a_is_set)
  b_is_set : Binds K d_is_set PIsSet []
  a_is_row : Addr
  d_is_row : FuncData
  F_is_row : Fun K "is_row" "is_row" sIsRow a_is_row d_is_row
  g_is_row : mg "is_row" = some (.ref a_is_row)
  b_is_row : Binds K d_is_row PIsRow []
  a_is_number : Addr
  d_is_number : FuncData
  F_is_number : Fun K "is_number" "is_number" sIsNumber a_is_number d_is_number
  g_is_number : mg "is_number" = some (.ref a_is_number)
  b_is_number : Binds K d_is_number PIsNumber []
  a_whole_in : Addr
  d_whole_in : FuncData
  F_whole_in : Fun K "whole_in" "whole_in" sWholeIn a_whole_in d_whole_in
  g_whole_in : mg "whole_in" = some (.ref a_whole_in)
  b_whole_in : Binds K d_whole_in PWholeIn []
  a_check_text : Addr
  d_check_text : FuncData
  F_check_text : Fun K "check_text" "check_text" sCheckText a_check_text d_check_text
  g_check_text : mg "check_text" = some (.ref a_check_text)
  b_check_text : Binds K d_check_text PCheckText []
  a_read_set : Addr
  d_read_set : FuncData
  F_read_set : Fun K "read_set" "read_set" sReadSet a_read_set d_read_set
  g_read_set : mg "read_set" = some (.ref a_read_set)
  b_read_set : Binds K d_read_set PReadSet []
  a_read_row : Addr
  d_read_row : FuncData
  F_read_row : Fun K "read_row" "read_row" sReadRow a_read_row d_read_row
  g_read_row : mg "read_row" = some (.ref a_read_row)
  b_read_row : Binds K d_read_row PReadRow []
  a__law_draw : Addr
  d__law_draw : FuncData
  F__law_draw : Fun K "_law_draw" "_law_draw" sLLawDraw a__law_draw d__law_draw
  g__law_draw : mg "_law_draw" = some (.ref a__law_draw)
  b__law_draw : Binds K d__law_draw PLLawDraw []
  a__law_kinds : Addr
  d__law_kinds : FuncData
  F__law_kinds : Fun K "_law_kinds" "_law_kinds" sLLawKinds a__law_kinds d__law_kinds
  g__law_kinds : mg "_law_kinds" = some (.ref a__law_kinds)
  b__law_kinds : Binds K d__law_kinds PLLawKinds []
  a__law_said : Addr
  d__law_said : FuncData
  F__law_said : Fun K "_law_said" "_law_said" sLLawSaid a__law_said d__law_said
  g__law_said : mg "_law_said" = some (.ref a__law_said)
  b__law_said : Binds K d__law_said PLLawSaid []
  a__law_no_sets : Addr
  d__law_no_sets : FuncData
  F__law_no_sets : Fun K "_law_no_sets" "_law_no_sets" sLLawNoSets a__law_no_sets d__law_no_sets
  g__law_no_sets : mg "_law_no_sets" = some (.ref a__law_no_sets)
  b__law_no_sets : Binds K d__law_no_sets PLLawNoSets []
  a__law_no_rows : Addr
  d__law_no_rows : FuncData
  F__law_no_rows : Fun K "_law_no_rows" "_law_no_rows" sLLawNoRows a__law_no_rows d__law_no_rows
  g__law_no_rows : mg "_law_no_rows" = some (.ref a__law_no_rows)
  b__law_no_rows : Binds K d__law_no_rows PLLawNoRows []
  a_law : Addr
  d_law : FuncData
  F_law : Fun K "law" "law" sLaw a_law d_law
  g_law : mg "law" = some (.ref a_law)
  b_law : Binds K d_law PLaw []
  m_ValueError : mg "ValueError" = none
  m_all : mg "all" = none
  m_bool : mg "bool" = none
  m_int : mg "int" = none
  m_isinstance : mg "isinstance" = none
  m_len : mg "len" = none
  m_range : mg "range" = none
  m_str : mg "str" = none
  m_tuple : mg "tuple" = none
  t_FIGURES : Tok
  c_FIGURES : mg "FIGURES" = some (.str "0123456789" t_FIGURES)
  t_MOST : Tok
  c_MOST : mg "MOST" = some (.int 60 t_MOST)
  t_MOST_FIGURES : Tok
  c_MOST_FIGURES : mg "MOST_FIGURES" = some (.int 60 t_MOST_FIGURES)
  r_NoDeed : Addr
  e_NoDeed : mg (Str.ofString "NoDeed") = some (.ref r_NoDeed)
  r_NoNumber : Addr
  e_NoNumber : mg (Str.ofString "NoNumber") = some (.ref r_NoNumber)
  r_NoRound : Addr
  e_NoRound : mg (Str.ofString "NoRound") = some (.ref r_NoRound)
  r_NoRow : Addr
  e_NoRow : mg (Str.ofString "NoRow") = some (.ref r_NoRow)
  r_NoSet : Addr
  e_NoSet : mg (Str.ofString "NoSet") = some (.ref r_NoSet)
  r_NoSum : Addr
  e_NoSum : mg (Str.ofString "NoSum") = some (.ref r_NoSum)
  r_NoText : Addr
  e_NoText : mg (Str.ofString "NoText") = some (.ref r_NoText)
  r_SetError : Addr
  e_SetError : mg (Str.ofString "SetError") = some (.ref r_SetError)
  r_TooMany : Addr
  e_TooMany : mg (Str.ofString "TooMany") = some (.ref r_TooMany)
  x_NoText : PySem.W.excIn K r_NoText [.type "ValueError", .type "Exception", .type "BaseException", .type "object"] "ValueError.__new__" = true
  k_NoText : PySem.W.keepIn K (.ref r_NoText) = true
  s_NoText : PySem.W.subIn K (.ref r_NoText) (.type "BaseException") = some true
  t_NoText : PySem.W.typeIn K (.ref r_NoText) = some (.type "type")
  hn : PySem.W.specialIn K (.builtin "object.__class__") "__get__" = some (some (.builtin "getset_descriptor.__get__"))
  ht : PySem.W.takesIn K (.builtin "object.__class__") = some true
  xa_NoText : PySem.W.findIn K (.ref r_NoText) "__getattribute__" = some (some (.builtin "BaseException.__getattribute__"))
  xb_NoText : PySem.W.findIn K (.ref r_NoText) "__getattr__" = some none
  xd_NoText : PySem.W.hasDictIn K r_NoText = true
  xe_NoText : PySem.W.findIn K (.ref r_NoText) "__class__" = some (some (.builtin "object.__class__"))
  xm_NoText : PySem.W.mroIn K r_NoText (.type "object") = some true
  xs_NoText : PySem.W.exmOne K (.ref r_NoText) (.ref r_SetError) = some true
  ki_NoText_NoDeed : PySem.W.kitOne K (.ref r_NoText) (.ref r_NoDeed) = some false
  ki_NoText_NoNumber : PySem.W.kitOne K (.ref r_NoText) (.ref r_NoNumber) = some false
  ki_NoText_NoRound : PySem.W.kitOne K (.ref r_NoText) (.ref r_NoRound) = some false
  ki_NoText_NoRow : PySem.W.kitOne K (.ref r_NoText) (.ref r_NoRow) = some false
  ki_NoText_NoSet : PySem.W.kitOne K (.ref r_NoText) (.ref r_NoSet) = some false
  ki_NoText_NoSum : PySem.W.kitOne K (.ref r_NoText) (.ref r_NoSum) = some false
  ki_NoText_NoText : PySem.W.kitOne K (.ref r_NoText) (.ref r_NoText) = some true
  ki_NoText_TooMany : PySem.W.kitOne K (.ref r_NoText) (.ref r_TooMany) = some false
  ki_NoText_ValueError : PySem.W.kitOne K (.ref r_NoText) (.type "ValueError") = some true
section
variable {P : Program} {w : World} {K : PySem.W.Frag} {mg : Str → Option Value} {base : Heap}
theorem T_xc (T : Top K mg) {c : String} {D : Addr} (hok : exSub c = some true) (hm : mg (Str.ofString c) = some (.ref D)) : ExcC K D := by
  have hc := exTab_in hok
  simp only [exL, List.mem_cons, List.not_mem_nil, or_false] at hc
  rcases hc with rfl
  · rw [T.e_NoText] at hm; cases hm; exact ⟨T.xa_NoText, T.xb_NoText, T.s_NoText, T.xd_NoText, T.xe_NoText, T.hn, T.ht, T.xm_NoText⟩
theorem T_sub (T : Top K mg) : ∀ c b, exSub c = some b → ∀ cls, mg (Str.ofString c) = some cls → PySem.W.exmOne K cls (.ref T.r_SetError) = some b ∧ ∃ D, cls = .ref D := by
  intro c b e cls hm
  have hc := exTab_in e
  simp only [exL, List.mem_cons, List.not_mem_nil, or_false] at hc
  rcases hc with rfl
  · rw [T.e_NoText] at hm; cases hm; obtain rfl : true = b := Option.some.inj ((show exSub "NoText" = some true by decide +kernel).symm.trans e); exact ⟨T.xs_NoText, _, rfl⟩
theorem T_ki_NoDeed (T : Top K mg) {c : String} {D : Addr} {b : Bool} (hm : mg (Str.ofString c) = some (.ref D)) (e : exTab exL c "NoDeed" = some b) : PySem.W.kitOne K (.ref D) (.ref T.r_NoDeed) = some b := by
  have hc := exTab_in e
  simp only [exL, List.mem_cons, List.not_mem_nil, or_false] at hc
  rcases hc with rfl
  · rw [T.e_NoText] at hm; cases hm; obtain rfl : false = b := Option.some.inj ((show exTab exL "NoText" "NoDeed" = some false by decide +kernel).symm.trans e); exact T.ki_NoText_NoDeed
theorem T_ki_NoNumber (T : Top K mg) {c : String} {D : Addr} {b : Bool} (hm : mg (Str.ofString c) = some (.ref D)) (e : exTab exL c "NoNumber" = some b) : PySem.W.kitOne K (.ref D) (.ref T.r_NoNumber) = some b := by
  have hc := exTab_in e
  simp only [exL, List.mem_cons, List.not_mem_nil, or_false] at hc
  rcases hc with rfl
  · rw [T.e_NoText] at hm; cases hm; obtain rfl : false = b := Option.some.inj ((show exTab exL "NoText" "NoNumber" = some false by decide +kernel).symm.trans e); exact T.ki_NoText_NoNumber
theorem T_ki_NoRound (T : Top K mg) {c : String} {D : Addr} {b : Bool} (hm : mg (Str.ofString c) = some (.ref D)) (e : exTab exL c "NoRound" = some b) : PySem.W.kitOne K (.ref D) (.ref T.r_NoRound) = some b := by
  have hc := exTab_in e
  simp only [exL, List.mem_cons, List.not_mem_nil, or_false] at hc
  rcases hc with rfl
  · rw [T.e_NoText] at hm; cases hm; obtain rfl : false = b := Option.some.inj ((show exTab exL "NoText" "NoRound" = some false by decide +kernel).symm.trans e); exact T.ki_NoText_NoRound
theorem T_ki_NoRow (T : Top K mg) {c : String} {D : Addr} {b : Bool} (hm : mg (Str.ofString c) = some (.ref D)) (e : exTab exL c "NoRow" = some b) : PySem.W.kitOne K (.ref D) (.ref T.r_NoRow) = some b := by
  have hc := exTab_in e
  simp only [exL, List.mem_cons, List.not_mem_nil, or_false] at hc
  rcases hc with rfl
  · rw [T.e_NoText] at hm; cases hm; obtain rfl : false = b := Option.some.inj ((show exTab exL "NoText" "NoRow" = some false by decide +kernel).symm.trans e); exact T.ki_NoText_NoRow
theorem T_ki_NoSet (T : Top K mg) {c : String} {D : Addr} {b : Bool} (hm : mg (Str.ofString c) = some (.ref D)) (e : exTab exL c "NoSet" = some b) : PySem.W.kitOne K (.ref D) (.ref T.r_NoSet) = some b := by
  have hc := exTab_in e
  simp only [exL, List.mem_cons, List.not_mem_nil, or_false] at hc
  rcases hc with rfl
  · rw [T.e_NoText] at hm; cases hm; obtain rfl : false = b := Option.some.inj ((show exTab exL "NoText" "NoSet" = some false by decide +kernel).symm.trans e); exact T.ki_NoText_NoSet
theorem T_ki_NoSum (T : Top K mg) {c : String} {D : Addr} {b : Bool} (hm : mg (Str.ofString c) = some (.ref D)) (e : exTab exL c "NoSum" = some b) : PySem.W.kitOne K (.ref D) (.ref T.r_NoSum) = some b := by
  have hc := exTab_in e
  simp only [exL, List.mem_cons, List.not_mem_nil, or_false] at hc
  rcases hc with rfl
  · rw [T.e_NoText] at hm; cases hm; obtain rfl : false = b := Option.some.inj ((show exTab exL "NoText" "NoSum" = some false by decide +kernel).symm.trans e); exact T.ki_NoText_NoSum
theorem T_ki_NoText (T : Top K mg) {c : String} {D : Addr} {b : Bool} (hm : mg (Str.ofString c) = some (.ref D)) (e : exTab exL c "NoText" = some b) : PySem.W.kitOne K (.ref D) (.ref T.r_NoText) = some b := by
  have hc := exTab_in e
  simp only [exL, List.mem_cons, List.not_mem_nil, or_false] at hc
  rcases hc with rfl
  · rw [T.e_NoText] at hm; cases hm; obtain rfl : true = b := Option.some.inj ((show exTab exL "NoText" "NoText" = some true by decide +kernel).symm.trans e); exact T.ki_NoText_NoText
theorem T_ki_TooMany (T : Top K mg) {c : String} {D : Addr} {b : Bool} (hm : mg (Str.ofString c) = some (.ref D)) (e : exTab exL c "TooMany" = some b) : PySem.W.kitOne K (.ref D) (.ref T.r_TooMany) = some b := by
  have hc := exTab_in e
  simp only [exL, List.mem_cons, List.not_mem_nil, or_false] at hc
  rcases hc with rfl
  · rw [T.e_NoText] at hm; cases hm; obtain rfl : false = b := Option.some.inj ((show exTab exL "NoText" "TooMany" = some false by decide +kernel).symm.trans e); exact T.ki_NoText_TooMany
theorem T_ki_ValueError (T : Top K mg) {c : String} {D : Addr} {b : Bool} (hm : mg (Str.ofString c) = some (.ref D)) (e : exTab exL c "ValueError" = some b) : PySem.W.kitOne K (.ref D) (.type "ValueError") = some b := by
  have hc := exTab_in e
  simp only [exL, List.mem_cons, List.not_mem_nil, or_false] at hc
  rcases hc with rfl
  · rw [T.e_NoText] at hm; cases hm; obtain rfl : true = b := Option.some.inj ((show exTab exL "NoText" "ValueError" = some true by decide +kernel).symm.trans e); exact T.ki_NoText_ValueError
theorem G_is_whole (T : Top K mg) : FnG P w K mg base 1 T.a_is_whole T.d_is_whole PIsWhole g_is_whole := by
  refine fn_ok (N := NIsWhole) (k := 0) T.F_is_whole scIsWhole (by decide) (fun cdv A outer s H E hr => ?_)
  have tk : Takes (cxOf (L2.CX P w) P w K mg base NIsWhole "is_whole" (defScope sIsWhole) T.a_is_whole cdv A outer s H E) (fun cls d _ H => E cls d H) := takes_of rfl rfl rfl rfl
  have hp : PassesOwn (model P w) (cxOf (L2.CX P w) P w K mg base NIsWhole "is_whole" (defScope sIsWhole) T.a_is_whole cdv A outer s H E).A (cxOf (L2.CX P w) P w K mg base NIsWhole "is_whole" (defScope sIsWhole) T.a_is_whole cdv A outer s H E).env (cxOf (L2.CX P w) P w K mg base NIsWhole "is_whole" (defScope sIsWhole) T.a_is_whole cdv A outer s H E).xe := passes_of rfl
  exact (svs_one (sv_ret (ev_and (ev_isa (by rfl) T.m_isinstance (by rfl) T.m_int (by decide +kernel) (ev_var 0) kT_int) (ev_one (ev_not (ev_isa (by rfl) T.m_isinstance (by rfl) T.m_bool (by decide +kernel) (ev_var 0) kT_bool))))))
theorem G_is_set (T : Top K mg) : FnG P w K mg base 2 T.a_is_set T.d_is_set PIsSet g_is_set := by
  refine fn_ok (N := NIsSet) (k := 1) T.F_is_set scIsSet (by decide) (fun cdv A outer s H E hr => ?_)
  have tk : Takes (cxOf (L2.CX P w) P w K mg base NIsSet "is_set" (defScope sIsSet) T.a_is_set cdv A outer s H E) (fun cls d _ H => E cls d H) := takes_of rfl rfl rfl rfl
  have hp : PassesOwn (model P w) (cxOf (L2.CX P w) P w K mg base NIsSet "is_set" (defScope sIsSet) T.a_is_set cdv A outer s H E).A (cxOf (L2.CX P w) P w K mg base NIsSet "is_set" (defScope sIsSet) T.a_is_set cdv A outer s H E).env (cxOf (L2.CX P w) P w K mg base NIsSet "is_set" (defScope sIsSet) T.a_is_set cdv A outer s H E).xe := passes_of rfl
  exact (svs_cons (sv_if (tv_w (wv_or (tv_not (tv_val (ev_isa (by rfl) T.m_isinstance (by rfl) T.m_tuple (by decide +kernel) (ev_var 0) kT_tuple))) (wv_or1 (tv_not (tv_val (ev_callB (cr_all rfl) o1_all n_all (by rfl) T.m_all (by decide +kernel) (ev_comp [("one", 1)] rfl scIsSet.nd (iv_seq (ev_var 0)) (blkOk_by (N := NIsSet) (sc := defScope sIsSet) (by decide +kernel)) (fun _ _ _ _ _ => (gv_name (i := 1) scIsSet.nd rfl (Or.inl rfl))) (fun _ _ _ _ _ => cv_nil) (fun _ _ _ _ _ => (ev_call (G_is_whole T) (hr.mono (by decide)) (by rfl) T.g_is_whole T.F_is_whole.kp T.b_is_whole takes0 (av_cons (ev_var 1) av_nil)))))))))) (svs_one (sv_ret ev_bl)) svs_nil)
  (svs_one (sv_ret (ev_callB (cr_all rfl) o1_all n_all (by rfl) T.m_all (by decide +kernel) (ev_comp [("k", 2)] rfl scIsSet.nd (iv_range1 (by rfl) T.m_range (av_cons (ev_bin op_sub o2_sub n_sub (ev_callB call_lenA o1_len n_len (by rfl) T.m_len (by decide +kernel) (ev_var 0)) ev_int) av_nil)) (blkOk_by (N := NIsSet) (sc := defScope sIsSet) (by decide +kernel)) (fun _ _ _ _ _ => (gv_name (i := 2) scIsSet.nd rfl (Or.inl rfl))) (fun _ _ _ _ _ => cv_nil) (fun _ _ _ _ _ => (ev_cmp op_lt (o2_cmp _) (n_cmp _) (ev_ix (hu66 hr) (ev_var 0) (ev_var 2) (fun _ _ => rfl)) (ev_ix (hu66 hr) (ev_var 0) (ev_bin op_addA o2_add n_add (ev_var 2) ev_int) (fun _ _ => rfl)) (nomark _))))))))
theorem G_is_row (T : Top K mg) : FnG P w K mg base 2 T.a_is_row T.d_is_row PIsRow g_is_row := by
  refine fn_ok (N := NIsRow) (k := 1) T.F_is_row scIsRow (by decide) (fun cdv A outer s H E hr => ?_)
  have tk : Takes (cxOf (L2.CX P w) P w K mg base NIsRow "is_row" (defScope sIsRow) T.a_is_row cdv A outer s H E) (fun cls d _ H => E cls d H) := takes_of rfl rfl rfl rfl
  have hp : PassesOwn (model P w) (cxOf (L2.CX P w) P w K mg base NIsRow "is_row" (defScope sIsRow) T.a_is_row cdv A outer s H E).A (cxOf (L2.CX P w) P w K mg base NIsRow "is_row" (defScope sIsRow) T.a_is_row cdv A outer s H E).env (cxOf (L2.CX P w) P w K mg base NIsRow "is_row" (defScope sIsRow) T.a_is_row cdv A outer s H E).xe := passes_of rfl
  exact (svs_cons (sv_if (tv_w (wv_or (tv_not (tv_val (ev_isa (by rfl) T.m_isinstance (by rfl) T.m_tuple (by decide +kernel) (ev_var 0) kT_tuple))) (wv_or (tv_cmp (op_neD hr.units) o2_ne n_ne (ev_callB call_lenA o1_len n_len (by rfl) T.m_len (by decide +kernel) (ev_var 0)) ev_int (nomark _)) (wv_or1 (tv_not (tv_val (ev_callB (cr_all rfl) o1_all n_all (by rfl) T.m_all (by decide +kernel) (ev_comp [("one", 1)] rfl scIsRow.nd (iv_seq (ev_var 0)) (blkOk_by (N := NIsRow) (sc := defScope sIsRow) (by decide +kernel)) (fun _ _ _ _ _ => (gv_name (i := 1) scIsRow.nd rfl (Or.inl rfl))) (fun _ _ _ _ _ => cv_nil) (fun _ _ _ _ _ => (ev_call (G_is_whole T) (hr.mono (by decide)) (by rfl) T.g_is_whole T.F_is_whole.kp T.b_is_whole takes0 (av_cons (ev_var 1) av_nil))))))))))) (svs_one (sv_ret ev_bl)) svs_nil)
  (svs_one (sv_ret (ev_and (ev_cmp op_ge (o2_cmp _) (n_cmp _) (ev_ix (hu66 hr) (ev_var 0) ev_int (fun _ _ => rfl)) ev_int (nomark _)) (ev_one (ev_cmp op_ge (o2_cmp _) (n_cmp _) (ev_ix (hu66 hr) (ev_var 0) ev_int (fun _ _ => rfl)) ev_int (nomark _)))))))
theorem G_is_number (T : Top K mg) : FnG P w K mg base 1 T.a_is_number T.d_is_number PIsNumber g_is_number := by
  refine fn_ok (N := NIsNumber) (k := 0) T.F_is_number scIsNumber (by decide) (fun cdv A outer s H E hr => ?_)
  have tk : Takes (cxOf (L2.CX P w) P w K mg base NIsNumber "is_number" (defScope sIsNumber) T.a_is_number cdv A outer s H E) (fun cls d _ H => E cls d H) := takes_of rfl rfl rfl rfl
  have hp : PassesOwn (model P w) (cxOf (L2.CX P w) P w K mg base NIsNumber "is_number" (defScope sIsNumber) T.a_is_number cdv A outer s H E).A (cxOf (L2.CX P w) P w K mg base NIsNumber "is_number" (defScope sIsNumber) T.a_is_number cdv A outer s H E).env (cxOf (L2.CX P w) P w K mg base NIsNumber "is_number" (defScope sIsNumber) T.a_is_number cdv A outer s H E).xe := passes_of rfl
  exact (svs_cons (sv_if (tv_w (wv_or (tv_cmp (op_eqD hr.units) o2_eq n_eq (ev_var 0) ev_str (nomark _)) (wv_or1 (tv_cmp op_gt (o2_cmp _) (n_cmp _) (ev_callB call_lenA o1_len n_len (by rfl) T.m_len (by decide +kernel) (ev_var 0)) (ev_globI (by rfl) T.c_MOST_FIGURES) (nomark _))))) (svs_one (sv_ret ev_bl)) svs_nil)
  (svs_cons (sv_for hp rfl (iv_seq (ev_var 0)) (gv_name (i := 1) scIsNumber.nd rfl (Or.inl rfl)) (svs_one (sv_if (tv_cmp (op_notInA (hu66 hr)) o2_notIn n_notIn (ev_var 1) (ev_globS (by rfl) T.c_FIGURES) rfl) (svs_one (sv_ret ev_bl)) svs_nil)))
  (svs_one (sv_ret (ev_or (ev_cmp (op_eqD hr.units) o2_eq n_eq (ev_var 0) ev_str (nomark _)) (ev_one (ev_cmp (op_neD hr.units) o2_ne n_ne (ev_ix (hu66 hr) (ev_var 0) ev_int (fun _ _ => rfl)) ev_str (nomark _))))))))
theorem G_whole_in (T : Top K mg) : FnG P w K mg base 2 T.a_whole_in T.d_whole_in PWholeIn g_whole_in := by
  refine fn_ok (N := NWholeIn) (k := 1) T.F_whole_in scWholeIn (by decide) (fun cdv A outer s H E hr => ?_)
  have tk : Takes (cxOf (L2.CX P w) P w K mg base NWholeIn "whole_in" (defScope sWholeIn) T.a_whole_in cdv A outer s H E) (fun cls d _ H => E cls d H) := takes_of rfl rfl rfl rfl
  have hp : PassesOwn (model P w) (cxOf (L2.CX P w) P w K mg base NWholeIn "whole_in" (defScope sWholeIn) T.a_whole_in cdv A outer s H E).A (cxOf (L2.CX P w) P w K mg base NWholeIn "whole_in" (defScope sWholeIn) T.a_whole_in cdv A outer s H E).env (cxOf (L2.CX P w) P w K mg base NWholeIn "whole_in" (defScope sWholeIn) T.a_whole_in cdv A outer s H E).xe := passes_of rfl
  exact (svs_cons (sv_set (i := 1) scWholeIn.nd rfl (Or.inl rfl) (ev_var 0))
  (svs_cons (sv_if (tv_cmp (op_eqD hr.units) o2_eq n_eq (ev_cut (ev_var 0) ov_none (ov_some ev_int)) ev_str (nomark _)) (svs_one (sv_set (i := 1) scWholeIn.nd rfl (Or.inl rfl) (ev_cut (ev_var 0) (ov_some ev_int) ov_none))) svs_nil)
  (svs_cons (sv_if (tv_w (wv_or (tv_not (tv_val (ev_call (G_is_number T) (hr.mono (by decide)) (by rfl) T.g_is_number T.F_is_number.kp T.b_is_number tk (av_cons (ev_var 1) av_nil)))) (wv_or1 (tv_cmp (op_eqD hr.units) o2_eq n_eq (ev_var 0) ev_str (nomark _))))) (svs_one (sv_raise (c := "NoText") rfl tk PySem.F.excBase_ValueError T.x_NoText T.e_NoText T.k_NoText (raises_own T.s_NoText T.t_NoText) (by rfl))) svs_nil)
  (svs_one (sv_ret (ev_callT call_int_str o1_intS n_intS (by rfl) T.m_int (by decide +kernel) (ev_var 0)))))))
theorem G_check_text (T : Top K mg) : FnG P w K mg base 1 T.a_check_text T.d_check_text PCheckText g_check_text := by
  refine fn_ok (N := NCheckText) (k := 0) T.F_check_text scCheckText (by decide) (fun cdv A outer s H E hr => ?_)
  have tk : Takes (cxOf (L2.CX P w) P w K mg base NCheckText "check_text" (defScope sCheckText) T.a_check_text cdv A outer s H E) (fun cls d _ H => E cls d H) := takes_of rfl rfl rfl rfl
  have hp : PassesOwn (model P w) (cxOf (L2.CX P w) P w K mg base NCheckText "check_text" (defScope sCheckText) T.a_check_text cdv A outer s H E).A (cxOf (L2.CX P w) P w K mg base NCheckText "check_text" (defScope sCheckText) T.a_check_text cdv A outer s H E).env (cxOf (L2.CX P w) P w K mg base NCheckText "check_text" (defScope sCheckText) T.a_check_text cdv A outer s H E).xe := passes_of rfl
  exact (svs_one (sv_if (tv_not (tv_val (ev_isa (by rfl) T.m_isinstance (by rfl) T.m_str (by decide +kernel) (ev_var 0) kT_str))) (svs_one (sv_raise (c := "NoText") rfl tk PySem.F.excBase_ValueError T.x_NoText T.e_NoText T.k_NoText (raises_own T.s_NoText T.t_NoText) (by rfl))) svs_nil))
theorem G_read_set (T : Top K mg) : FnG P w K mg base 3 T.a_read_set T.d_read_set PReadSet g_read_set := by
  refine fn_ok (N := NReadSet) (k := 2) T.F_read_set scReadSet (by decide) (fun cdv A outer s H E hr => ?_)
  have tk : Takes (cxOf (L2.CX P w) P w K mg base NReadSet "read_set" (defScope sReadSet) T.a_read_set cdv A outer s H E) (fun cls d _ H => E cls d H) := takes_of rfl rfl rfl rfl
  have hp : PassesOwn (model P w) (cxOf (L2.CX P w) P w K mg base NReadSet "read_set" (defScope sReadSet) T.a_read_set cdv A outer s H E).A (cxOf (L2.CX P w) P w K mg base NReadSet "read_set" (defScope sReadSet) T.a_read_set cdv A outer s H E).env (cxOf (L2.CX P w) P w K mg base NReadSet "read_set" (defScope sReadSet) T.a_read_set cdv A outer s H E).xe := passes_of rfl
  exact (svs_cons (sv_expr (ev_call (G_check_text T) (hr.mono (by decide)) (by rfl) T.g_check_text T.F_check_text.kp T.b_check_text tk (av_cons (ev_var 0) av_nil)))
  (svs_cons (sv_if (tv_cmp (op_eqD hr.units) o2_eq n_eq (ev_var 0) ev_str (nomark _)) (svs_one (sv_ret (ev_tup av_nil))) svs_nil)
  (svs_cons (sv_set (i := 1) scReadSet.nd rfl (Or.inl rfl) (ev_callT call_tupleN o1_tuple n_tuple (by rfl) T.m_tuple (by decide +kernel) (ev_compX [("word", 2)] rfl rfl tk rfl scReadSet.nd (iv_seq (ev_split (ev_var 0) ev_str)) (blkOk_by (N := NReadSet) (sc := defScope sReadSet) (by decide +kernel)) (fun _ _ _ _ _ => (gv_name (i := 2) scReadSet.nd rfl (Or.inl rfl))) (fun _ _ _ _ _ => cv_nil) (fun _ _ _ _ _ _ _ tkc => (ev_callC (G_whole_in T) (hr.mono (by decide)) (by rfl) T.g_whole_in T.F_whole_in.kp T.b_whole_in tkc (av_cons (ev_var 2) av_nil))))))
  (svs_cons (sv_if (tv_w (wv_or (tv_not (tv_val (ev_call (G_is_set T) (hr.mono (by decide)) (by rfl) T.g_is_set T.F_is_set.kp T.b_is_set tk (av_cons (ev_var 1) av_nil)))) (wv_or1 (tv_cmp op_gt (o2_cmp _) (n_cmp _) (ev_callB call_lenA o1_len n_len (by rfl) T.m_len (by decide +kernel) (ev_var 1)) (ev_globI (by rfl) T.c_MOST) (nomark _))))) (svs_one (sv_raise (c := "NoText") rfl tk PySem.F.excBase_ValueError T.x_NoText T.e_NoText T.k_NoText (raises_own T.s_NoText T.t_NoText) (by rfl))) svs_nil)
  (svs_one (sv_retV 1))))))
theorem G_read_row (T : Top K mg) : FnG P w K mg base 3 T.a_read_row T.d_read_row PReadRow g_read_row := by
  refine fn_ok (N := NReadRow) (k := 2) T.F_read_row scReadRow (by decide) (fun cdv A outer s H E hr => ?_)
  have tk : Takes (cxOf (L2.CX P w) P w K mg base NReadRow "read_row" (defScope sReadRow) T.a_read_row cdv A outer s H E) (fun cls d _ H => E cls d H) := takes_of rfl rfl rfl rfl
  have hp : PassesOwn (model P w) (cxOf (L2.CX P w) P w K mg base NReadRow "read_row" (defScope sReadRow) T.a_read_row cdv A outer s H E).A (cxOf (L2.CX P w) P w K mg base NReadRow "read_row" (defScope sReadRow) T.a_read_row cdv A outer s H E).env (cxOf (L2.CX P w) P w K mg base NReadRow "read_row" (defScope sReadRow) T.a_read_row cdv A outer s H E).xe := passes_of rfl
  exact (svs_cons (sv_expr (ev_call (G_check_text T) (hr.mono (by decide)) (by rfl) T.g_check_text T.F_check_text.kp T.b_check_text tk (av_cons (ev_var 0) av_nil)))
  (svs_cons (sv_set (i := 1) scReadRow.nd rfl (Or.inl rfl) (ev_callT call_tupleN o1_tuple n_tuple (by rfl) T.m_tuple (by decide +kernel) (ev_compX [("word", 2)] rfl rfl tk rfl scReadRow.nd (iv_seq (ev_split (ev_var 0) ev_str)) (blkOk_by (N := NReadRow) (sc := defScope sReadRow) (by decide +kernel)) (fun _ _ _ _ _ => (gv_name (i := 2) scReadRow.nd rfl (Or.inl rfl))) (fun _ _ _ _ _ => cv_nil) (fun _ _ _ _ _ _ _ tkc => (ev_callC (G_whole_in T) (hr.mono (by decide)) (by rfl) T.g_whole_in T.F_whole_in.kp T.b_whole_in tkc (av_cons (ev_var 2) av_nil))))))
  (svs_cons (sv_if (tv_not (tv_val (ev_call (G_is_row T) (hr.mono (by decide)) (by rfl) T.g_is_row T.F_is_row.kp T.b_is_row tk (av_cons (ev_var 1) av_nil)))) (svs_one (sv_raise (c := "NoText") rfl tk PySem.F.excBase_ValueError T.x_NoText T.e_NoText T.k_NoText (raises_own T.s_NoText T.t_NoText) (by rfl))) svs_nil)
  (svs_one (sv_retV 1)))))
theorem G__law_draw (T : Top K mg) : FnG P w K mg base 1 T.a__law_draw T.d__law_draw PLLawDraw g__law_draw := by
  refine fn_ok (N := NLLawDraw) (k := 0) T.F__law_draw scLLawDraw (by decide) (fun cdv A outer s H E hr => ?_)
  have tk : Takes (cxOf (L2.CX P w) P w K mg base NLLawDraw "_law_draw" (defScope sLLawDraw) T.a__law_draw cdv A outer s H E) (fun cls d _ H => E cls d H) := takes_of rfl rfl rfl rfl
  have hp : PassesOwn (model P w) (cxOf (L2.CX P w) P w K mg base NLLawDraw "_law_draw" (defScope sLLawDraw) T.a__law_draw cdv A outer s H E).A (cxOf (L2.CX P w) P w K mg base NLLawDraw "_law_draw" (defScope sLLawDraw) T.a__law_draw cdv A outer s H E).env (cxOf (L2.CX P w) P w K mg base NLLawDraw "_law_draw" (defScope sLLawDraw) T.a__law_draw cdv A outer s H E).xe := passes_of rfl
  exact (svs_cons (sv_if (tv_cmp op_ge (o2_cmp _) (n_cmp _) (ev_var 0) (ev_bin op_pow o2_pow n_pow ev_int ev_int) (nomark _)) (svs_cons (sv_set (i := 3) scLLawDraw.nd rfl (Or.inl rfl) (ev_var 0))
  (svs_cons (sv_for hp rfl (iv_range1 (by rfl) T.m_range (av_cons (ev_var 1) av_nil)) (gv_name (i := 4) scLLawDraw.nd rfl (Or.inl rfl)) (svs_one (sv_set (i := 3) scLLawDraw.nd rfl (Or.inl rfl) (ev_bin op_fdivA o2_div n_div (ev_var 3) (ev_var 2)))))
  (svs_one (sv_ret (ev_bin op_modN o2_mod n_mod (ev_var 3) (ev_var 2)))))) svs_nil)
  (svs_cons (sv_set (i := 5) scLLawDraw.nd rfl (Or.inl rfl) (ev_bin op_modN o2_mod n_mod (ev_bin op_mulA o2_mul n_mul (ev_bin op_addA o2_add n_add (ev_bin op_addA o2_add n_add (ev_bin op_modN o2_mod n_mod (ev_var 0) ev_int) (ev_bin op_mulA o2_mul n_mul ev_int (ev_var 1))) ev_int) ev_int) ev_int))
  (svs_cons (sv_set (i := 5) scLLawDraw.nd rfl (Or.inl rfl) (ev_bin op_modN o2_mod n_mod (ev_bin op_addA o2_add n_add (ev_bin op_addA o2_add n_add (ev_bin op_mulA o2_mul n_mul (ev_var 5) (ev_var 5)) (ev_bin op_mulA o2_mul n_mul ev_int (ev_var 1))) ev_int) ev_int))
  (svs_one (sv_ret (ev_bin op_modN o2_mod n_mod (ev_bin op_fdivA o2_div n_div (ev_bin op_modN o2_mod n_mod (ev_bin op_mulA o2_mul n_mul (ev_var 5) ev_int) ev_int) ev_int) (ev_var 2)))))))
theorem G__law_kinds (T : Top K mg) : FnE P w K mg base 1 T.a__law_kinds T.d__law_kinds PLLawKinds g__law_kinds := by
  refine fnE_ok (N := NLLawKinds) (k := 0) T.F__law_kinds scLLawKinds rfl (by decide) (fun cdv A outer s H E a oe c D hr hok hm hz hv => ?_)
  have hu66 : ∀ {A : Around} {k : Nat}, L2H.RoomH k A → A.units + 66 < cLine := fun h => hu66H h
  exact (svs_cons (sv_set (i := 1) scLLawKinds.nd rfl (Or.inl rfl) (ev_lst (av_cons (ev_isE (i := 0) (T_xc T hok hm) hz hv List.mem_cons_self (by rfl) T.m_isinstance (by rfl) T.e_NoSet (fun b e => T_ki_NoSet T hm e) rfl) (av_cons (ev_isE (i := 0) (T_xc T hok hm) hz hv List.mem_cons_self (by rfl) T.m_isinstance (by rfl) T.e_NoNumber (fun b e => T_ki_NoNumber T hm e) rfl) (av_cons (ev_isE (i := 0) (T_xc T hok hm) hz hv List.mem_cons_self (by rfl) T.m_isinstance (by rfl) T.e_NoSum (fun b e => T_ki_NoSum T hm e) rfl) (av_cons (ev_isE (i := 0) (T_xc T hok hm) hz hv List.mem_cons_self (by rfl) T.m_isinstance (by rfl) T.e_NoRow (fun b e => T_ki_NoRow T hm e) rfl) av_nil))))))
  (svs_cons (sv_set (i := 1) scLLawKinds.nd rfl (Or.inl rfl) (ev_bin op_addA o2_add n_add (ev_var 1) (ev_lst (av_cons (ev_isE (i := 0) (T_xc T hok hm) hz hv List.mem_cons_self (by rfl) T.m_isinstance (by rfl) T.e_TooMany (fun b e => T_ki_TooMany T hm e) rfl) (av_cons (ev_isE (i := 0) (T_xc T hok hm) hz hv List.mem_cons_self (by rfl) T.m_isinstance (by rfl) T.e_NoText (fun b e => T_ki_NoText T hm e) rfl) (av_cons (ev_isE (i := 0) (T_xc T hok hm) hz hv List.mem_cons_self (by rfl) T.m_isinstance (by rfl) T.e_NoDeed (fun b e => T_ki_NoDeed T hm e) rfl) (av_cons (ev_isE (i := 0) (T_xc T hok hm) hz hv List.mem_cons_self (by rfl) T.m_isinstance (by rfl) T.e_NoRound (fun b e => T_ki_NoRound T hm e) rfl) av_nil)))))))
  (svs_cons (sv_set (i := 2) scLLawKinds.nd rfl (Or.inl rfl) (ev_lst (av_cons ev_str (av_cons ev_str (av_cons ev_str (av_cons ev_str (av_cons ev_str (av_cons ev_str (av_cons ev_str (av_cons ev_str av_nil))))))))))
  (svs_cons (sv_if (tv_w (wv_or (tv_cmp (op_neD hr.units) o2_ne n_ne (ev_bm PySem.F.plainAttrs_list PySem.F.slot_list_count PySem.F.type_list_count (mt_countD (hu65 (hu66 hr))) o2_count n_count (fun _ _ _ _ => tyV_isL) (ev_var 1) ev_bl) ev_int (nomark _)) (wv_or1 (tv_not (tv_val (ev_isEB (i := 0) (T_xc T hok hm) hz hv List.mem_cons_self (by rfl) T.m_isinstance (by rfl) T.m_ValueError (by decide +kernel) (fun b e => T_ki_ValueError T hm e) rfl)))))) (svs_one (sv_ret ev_str)) svs_nil)
  (svs_one (sv_ret (ev_ix (hu66 hr) (ev_var 2) (ev_bm PySem.F.plainAttrs_list PySem.F.slot_list_index PySem.F.type_list_index (mt_indexD (hu65 (hu66 hr))) o2_index n_index (fun _ _ _ _ => tyV_isL) (ev_var 1) ev_bl) (fun _ _ => rfl))))))))
theorem G__law_said (T : Top K mg) : FnG P w K mg base 4 T.a__law_said T.d__law_said PLLawSaid g__law_said := by
  refine fn_ok (N := NLLawSaid) (k := 3) T.F__law_said scLLawSaid (by decide) (fun cdv A outer s H E hr => ?_)
  have tk : Takes (cxOf (L2.CX P w) P w K mg base NLLawSaid "_law_said" (defScope sLLawSaid) T.a__law_said cdv A outer s H E) (fun cls d _ H => E cls d H) := takes_of rfl rfl rfl rfl
  have hp : PassesOwn (model P w) (cxOf (L2.CX P w) P w K mg base NLLawSaid "_law_said" (defScope sLLawSaid) T.a__law_said cdv A outer s H E).A (cxOf (L2.CX P w) P w K mg base NLLawSaid "_law_said" (defScope sLLawSaid) T.a__law_said cdv A outer s H E).env (cxOf (L2.CX P w) P w K mg base NLLawSaid "_law_said" (defScope sLLawSaid) T.a__law_said cdv A outer s H E).xe := passes_of rfl
  exact (svs_cons (sv_try (i := 2) rfl rfl scLLawSaid.nd rfl (by rfl) ⟨by rfl, by decide, .inl T.e_SetError⟩ tk (T_sub T) (fun W' pn xe tk hp => (svs_one (sv_if (tv_cmp (op_eqD hr.units) o2_eq n_eq (ev_var 0) ev_int (nomark _)) (svs_one (sv_expr (ev_call (G_read_set T) (hr.mono (by decide)) (by rfl) T.g_read_set T.F_read_set.kp T.b_read_set tk (av_cons (ev_var 1) av_nil)))) (svs_one (sv_expr (ev_call (G_read_row T) (hr.mono (by decide)) (by rfl) T.g_read_row T.F_read_row.kp T.b_read_row tk (av_cons (ev_var 1) av_nil))))))) (fun c a oe D pn hok hm hz hv => (svs_one (sv_ret (ev_callE (i := 2) (G__law_kinds T) (room_mark (hr.mono (by decide)) _) List.mem_cons_self hm hz hv (by rfl) T.g__law_kinds T.F__law_kinds.kp T.b__law_kinds takes_never rfl)))))
  (svs_one (sv_ret ev_str)))
theorem G__law_no_sets (T : Top K mg) : FnG P w K mg base 1 T.a__law_no_sets T.d__law_no_sets PLLawNoSets g__law_no_sets := by
  refine fn_ok (N := NLLawNoSets) (k := 0) T.F__law_no_sets scLLawNoSets (by decide) (fun cdv A outer s H E hr => ?_)
  have tk : Takes (cxOf (L2.CX P w) P w K mg base NLLawNoSets "_law_no_sets" (defScope sLLawNoSets) T.a__law_no_sets cdv A outer s H E) (fun cls d _ H => E cls d H) := takes_of rfl rfl rfl rfl
  have hp : PassesOwn (model P w) (cxOf (L2.CX P w) P w K mg base NLLawNoSets "_law_no_sets" (defScope sLLawNoSets) T.a__law_no_sets cdv A outer s H E).A (cxOf (L2.CX P w) P w K mg base NLLawNoSets "_law_no_sets" (defScope sLLawNoSets) T.a__law_no_sets cdv A outer s H E).env (cxOf (L2.CX P w) P w K mg base NLLawNoSets "_law_no_sets" (defScope sLLawNoSets) T.a__law_no_sets cdv A outer s H E).xe := passes_of rfl
  exact (svs_cons (sv_set (i := 1) scLLawNoSets.nd rfl (Or.inl rfl) (ev_lst (av_cons ev_str (av_cons ev_str (av_cons ev_str (av_cons ev_str (av_cons ev_str (av_cons ev_str (av_cons ev_str (av_cons ev_str (av_cons ev_str (av_cons ev_str (av_cons ev_str (av_cons ev_str av_nil))))))))))))))
  (svs_cons (sv_set (i := 1) scLLawNoSets.nd rfl (Or.inl rfl) (ev_bin op_addA o2_add n_add (ev_var 1) (ev_lst (av_cons ev_str (av_cons ev_str (av_cons ev_str (av_cons ev_str (av_cons ev_str (av_cons ev_str (av_cons ev_str (av_cons ev_str (av_cons ev_str (av_cons ev_str av_nil)))))))))))))
  (svs_cons (sv_set (i := 1) scLLawNoSets.nd rfl (Or.inl rfl) (ev_bin op_addA o2_add n_add (ev_var 1) (ev_lst (av_cons ev_str (av_cons (ev_bin op_addA o2_add n_add (ev_var 0) ev_str) (av_cons (ev_bin op_addA o2_add n_add (ev_var 0) ev_str) (av_cons (ev_bin op_addA o2_add n_add (ev_bin op_addA o2_add n_add ev_str (ev_var 0)) ev_str) av_nil)))))))
  (svs_one (sv_ret (ev_bin op_addA o2_add n_add (ev_var 1) (ev_lst (av_cons (ev_bin op_mulS o2_mulS n_mulS ev_str ev_int) av_nil))))))))
theorem G__law_no_rows (T : Top K mg) : FnG P w K mg base 1 T.a__law_no_rows T.d__law_no_rows PLLawNoRows g__law_no_rows := by
  refine fn_ok (N := NLLawNoRows) (k := 0) T.F__law_no_rows scLLawNoRows (by decide) (fun cdv A outer s H E hr => ?_)
  have tk : Takes (cxOf (L2.CX P w) P w K mg base NLLawNoRows "_law_no_rows" (defScope sLLawNoRows) T.a__law_no_rows cdv A outer s H E) (fun cls d _ H => E cls d H) := takes_of rfl rfl rfl rfl
  have hp : PassesOwn (model P w) (cxOf (L2.CX P w) P w K mg base NLLawNoRows "_law_no_rows" (defScope sLLawNoRows) T.a__law_no_rows cdv A outer s H E).A (cxOf (L2.CX P w) P w K mg base NLLawNoRows "_law_no_rows" (defScope sLLawNoRows) T.a__law_no_rows cdv A outer s H E).env (cxOf (L2.CX P w) P w K mg base NLLawNoRows "_law_no_rows" (defScope sLLawNoRows) T.a__law_no_rows cdv A outer s H E).xe := passes_of rfl
  exact (svs_cons (sv_set (i := 1) scLLawNoRows.nd rfl (Or.inl rfl) (ev_lst (av_cons ev_str (av_cons ev_str (av_cons ev_str (av_cons ev_str (av_cons ev_str (av_cons ev_str (av_cons ev_str (av_cons ev_str (av_cons ev_str av_nil)))))))))))
  (svs_cons (sv_set (i := 1) scLLawNoRows.nd rfl (Or.inl rfl) (ev_bin op_addA o2_add n_add (ev_var 1) (ev_lst (av_cons ev_str (av_cons ev_str (av_cons ev_str (av_cons ev_str (av_cons ev_str (av_cons ev_str (av_cons ev_str av_nil))))))))))
  (svs_cons (sv_set (i := 1) scLLawNoRows.nd rfl (Or.inl rfl) (ev_bin op_addA o2_add n_add (ev_var 1) (ev_lst (av_cons ev_str (av_cons ev_str (av_cons ev_str (av_cons ev_str (av_cons ev_str (av_cons ev_str (av_cons ev_str av_nil))))))))))
  (svs_cons (sv_set (i := 1) scLLawNoRows.nd rfl (Or.inl rfl) (ev_bin op_addA o2_add n_add (ev_var 1) (ev_lst (av_cons (ev_bin op_addA o2_add n_add ev_str (ev_bin op_mulS o2_mulS n_mulS ev_str ev_int)) (av_cons (ev_bin op_addA o2_add n_add (ev_var 0) ev_str) (av_cons (ev_bin op_addA o2_add n_add (ev_var 0) ev_str) av_nil))))))
  (svs_one (sv_ret (ev_bin op_addA o2_add n_add (ev_var 1) (ev_lst (av_cons (ev_bin op_addA o2_add n_add (ev_var 0) ev_str) av_nil)))))))))
theorem G_law (T : Top K mg) : FnG P w K mg base 5 T.a_law T.d_law PLaw g_law := by
  refine fn_ok (N := NLaw) (k := 4) T.F_law scLaw (by decide) (fun cdv A outer s H E hr => ?_)
  have tk : Takes (cxOf (L2.CX P w) P w K mg base NLaw "law" (defScope sLaw) T.a_law cdv A outer s H E) (fun cls d _ H => E cls d H) := takes_of rfl rfl rfl rfl
  have hp : PassesOwn (model P w) (cxOf (L2.CX P w) P w K mg base NLaw "law" (defScope sLaw) T.a_law cdv A outer s H E).A (cxOf (L2.CX P w) P w K mg base NLaw "law" (defScope sLaw) T.a_law cdv A outer s H E).env (cxOf (L2.CX P w) P w K mg base NLaw "law" (defScope sLaw) T.a_law cdv A outer s H E).xe := passes_of rfl
  exact (svs_cons (sv_for hp rfl (iv_seq (ev_bin op_addA o2_add n_add (ev_cut (ev_var 0) ov_none (ov_some ev_int)) (ev_lst (av_cons ev_int (av_cons ev_int av_nil))))) (gv_name (i := 1) scLaw.nd rfl (Or.inl rfl)) (svs_cons (sv_set (i := 2) scLaw.nd rfl (Or.inl rfl) (ev_callT call_str_int o1_str n_str (by rfl) T.m_str (by decide +kernel) (ev_bin op_addA o2_add n_add ev_int (ev_call (G__law_draw T) (hr.mono (by decide)) (by rfl) T.g__law_draw T.F__law_draw.kp T.b__law_draw tk (av_cons (ev_var 1) (av_cons ev_int (av_cons (ev_bin op_pow o2_pow n_pow ev_int ev_int) av_nil)))))))
  (svs_cons (sv_set (i := 3) scLaw.nd rfl (Or.inl rfl) (ev_lst (av_cons (ev_var 2) (av_cons (ev_bin op_addA o2_add n_add (ev_bin op_addA o2_add n_add ev_str (ev_var 2)) ev_str) av_nil))))
  (svs_cons (sv_set (i := 4) scLaw.nd rfl (Or.inl rfl) (ev_lst (av_cons (ev_call (G__law_no_sets T) (hr.mono (by decide)) (by rfl) T.g__law_no_sets T.F__law_no_sets.kp T.b__law_no_sets tk (av_cons (ev_var 2) av_nil)) (av_cons (ev_call (G__law_no_rows T) (hr.mono (by decide)) (by rfl) T.g__law_no_rows T.F__law_no_rows.kp T.b__law_no_rows tk (av_cons (ev_ix (hu66 hr) (ev_var 3) ev_int (fun _ _ => rfl)) av_nil)) av_nil))))
  (svs_one (sv_for hp rfl (iv_range1 (by rfl) T.m_range (av_cons ev_int av_nil)) (gv_name (i := 5) scLaw.nd rfl (Or.inl rfl)) (svs_cons (sv_set (i := 6) scLaw.nd rfl (Or.inl rfl) (ev_ix (hu66 hr) (ev_ix (hu66 hr) (ev_var 4) (ev_var 5) (fun _ _ => rfl)) (ev_call (G__law_draw T) (hr.mono (by decide)) (by rfl) T.g__law_draw T.F__law_draw.kp T.b__law_draw tk (av_cons (ev_var 1) (av_cons (ev_bin op_addA o2_add n_add ev_int (ev_var 5)) (av_cons (ev_callB call_lenA o1_len n_len (by rfl) T.m_len (by decide +kernel) (ev_ix (hu66 hr) (ev_var 4) (ev_var 5) (fun _ _ => rfl))) av_nil)))) (fun _ _ => rfl)))
  (svs_cons (sv_set (i := 7) scLaw.nd rfl (Or.inl rfl) (ev_ix (hu66 hr) (ev_lst (av_cons ev_non (av_cons ev_int (av_cons ev_bl (av_cons (ev_lst (av_cons ev_str av_nil)) (av_cons (ev_tup (av_cons ev_str av_nil)) (av_cons (ev_tup av_nil) (av_cons ev_dict0 av_nil)))))))) (ev_call (G__law_draw T) (hr.mono (by decide)) (by rfl) T.g__law_draw T.F__law_draw.kp T.b__law_draw tk (av_cons (ev_var 1) (av_cons ev_int (av_cons ev_int av_nil)))) (fun _ _ => rfl)))
  (svs_one (sv_if (tv_w (wv_or (tv_cmp (op_neD hr.units) o2_ne n_ne (ev_call (G__law_said T) (hr.mono (by decide)) (by rfl) T.g__law_said T.F__law_said.kp T.b__law_said tk (av_cons (ev_var 5) (av_cons (ev_var 6) av_nil))) ev_str (nomark _)) (wv_or (tv_cmp (op_neD hr.units) o2_ne n_ne (ev_call (G__law_said T) (hr.mono (by decide)) (by rfl) T.g__law_said T.F__law_said.kp T.b__law_said tk (av_cons (ev_var 5) (av_cons (ev_var 7) av_nil))) ev_str (nomark _)) (wv_or1 (tv_cmp (op_neD hr.units) o2_ne n_ne (ev_call (G__law_said T) (hr.mono (by decide)) (by rfl) T.g__law_said T.F__law_said.kp T.b__law_said tk (av_cons (ev_var 5) (av_cons (ev_ix (hu66 hr) (ev_var 3) (ev_var 5) (fun _ _ => rfl)) av_nil))) ev_str (nomark _)))))) (svs_one (sv_ret ev_bl)) svs_nil))))))))))
  (svs_cons (sv_setComp (i := 8) [("_law_text", 6)] rfl scLaw.nd rfl rfl (sw_true rfl rfl rfl (by decide +kernel)) (iv_seq (ev_tup (av_cons ev_str (av_cons ev_str (av_cons ev_str (av_cons ev_str av_nil)))))) (blkOk_by (N := NLaw) (sc := defScope sLaw) (by decide +kernel)) (fun _ _ _ _ _ => (gv_name (i := 6) scLaw.nd rfl (Or.inl rfl))) (fun _ _ _ _ _ => cv_nil) (fun _ _ _ _ _ => (ev_call (G__law_said T) (hr.mono (by decide)) (by rfl) T.g__law_said T.F__law_said.kp T.b__law_said takes0 (av_cons ev_int (av_cons (ev_var 6) av_nil)))))
  (svs_cons (sv_if (tv_cmp (op_neD hr.units) o2_ne n_ne (ev_bin op_addA o2_add n_add (ev_var 8) (ev_comp [("_law_text", 6)] rfl scLaw.nd (iv_seq (ev_tup (av_cons ev_str (av_cons ev_str (av_cons ev_str av_nil))))) (blkOk_by (N := NLaw) (sc := defScope sLaw) (by decide +kernel)) (fun _ _ _ _ _ => (gv_name (i := 6) scLaw.nd rfl (Or.inl rfl))) (fun _ _ _ _ _ => cv_nil) (fun _ _ _ _ _ => (ev_call (G__law_said T) (hr.mono (by decide)) (by rfl) T.g__law_said T.F__law_said.kp T.b__law_said takes0 (av_cons ev_int (av_cons (ev_var 6) av_nil)))))) (ev_bin op_mulA o2_mul n_mul (ev_lst (av_cons ev_str av_nil)) ev_int) (nomark _)) (svs_one (sv_ret ev_bl)) svs_nil)
  (svs_cons (sv_set (i := 9) scLaw.nd rfl (Or.inl rfl) (ev_join ev_str (ev_comp [("_law_k", 10)] rfl scLaw.nd (iv_range1 (by rfl) T.m_range (av_cons ev_int av_nil)) (blkOk_by (N := NLaw) (sc := defScope sLaw) (by decide +kernel)) (fun _ _ _ _ _ => (gv_name (i := 10) scLaw.nd rfl (Or.inl rfl))) (fun _ _ _ _ _ => cv_nil) (fun _ _ _ _ _ => (ev_callT call_str_int o1_str n_str (by rfl) T.m_str (by decide +kernel) (ev_var 10))))))
  (svs_one (sv_ret (ev_and (ev_cmp (op_eqD hr.units) o2_eq n_eq (ev_call (G__law_said T) (hr.mono (by decide)) (by rfl) T.g__law_said T.F__law_said.kp T.b__law_said tk (av_cons ev_int (av_cons (ev_var 9) av_nil))) ev_str (nomark _)) (ev_and (ev_cmp (op_eqD hr.units) o2_eq n_eq (ev_call (G__law_said T) (hr.mono (by decide)) (by rfl) T.g__law_said T.F__law_said.kp T.b__law_said tk (av_cons ev_int (av_cons (ev_cut (ev_var 9) ov_none (ov_some (ev_un un_neg o1_neg n_neg ev_int))) av_nil))) ev_str (nomark _)) (ev_one (ev_cmp (op_eqD hr.units) o2_eq n_eq (ev_call (G__law_said T) (hr.mono (by decide)) (by rfl) T.g__law_said T.F__law_said.kp T.b__law_said tk (av_cons ev_int (av_cons ev_str av_nil))) ev_str (nomark _)))))))))))
end
/-- a law's own promise -/
def spLaw (K : PySem.W.Frag) : Sp := fun vs H Q _ => ∃ (a : Addr) (ns : List Int), vs = [.ref a] ∧ SqL K H a (ns.map V.int) ∧ ns.length ≤ 63 ∧ ∀ H', Q (.bl true) H'
theorem law_ok {P : Program} {w : World} {K : PySem.W.Frag} {mg : Str → Option Value} {base : Heap} (T : Top K mg) (h : ∀ ns : List Int, ns.length ≤ 63 → g_law [.scr ns] = .ok (.cl (.bl true))) : FnOk P w K mg base (L2.CX P w) 5 T.a_law T.d_law PLaw (spLaw K) := by
  refine FnOk.imp (G_law T) fun vs H Q E z => ?_
  obtain ⟨a, ns, rfl, hs, hl, q⟩ := z
  refine ⟨H, [.scr ns], .refl H, rfl, .cons (.scr hs) .nil, ?_⟩
  rw [h ns hl]
  intro F' H' v x r
  cases r
  exact q H'
def mkTop {K : PySem.W.Frag} {h : Heap} {mg : Str → Option Value} (X : K.In h) (G : h.Ns mainGlobals mg)
    {f0 : Addr} {od0 an0 : Option Addr} {sl0 : Array (Option Value)} {oc0 kV0 dc0 pm0 cd0 ct0 : Value}
    {f1 : Addr} {od1 an1 : Option Addr} {sl1 : Array (Option Value)} {oc1 kV1 dc1 pm1 cd1 ct1 : Value}
    {f2 : Addr} {od2 an2 : Option Addr} {sl2 : Array (Option Value)} {oc2 kV2 dc2 pm2 cd2 ct2 : Value}
    {f3 : Addr} {od3 an3 : Option Addr} {sl3 : Array (Option Value)} {oc3 kV3 dc3 pm3 cd3 ct3 : Value}
    {f4 : Addr} {od4 an4 : Option Addr} {sl4 : Array (Option Value)} {oc4 kV4 dc4 pm4 cd4 ct4 : Value}
    {f5 : Addr} {od5 an5 : Option Addr} {sl5 : Array (Option Value)} {oc5 kV5 dc5 pm5 cd5 ct5 : Value}
    {f6 : Addr} {od6 an6 : Option Addr} {sl6 : Array (Option Value)} {oc6 kV6 dc6 pm6 cd6 ct6 : Value}
    {f7 : Addr} {od7 an7 : Option Addr} {sl7 : Array (Option Value)} {oc7 kV7 dc7 pm7 cd7 ct7 : Value}
    {f8 : Addr} {od8 an8 : Option Addr} {sl8 : Array (Option Value)} {oc8 kV8 dc8 pm8 cd8 ct8 : Value}
    {f9 : Addr} {od9 an9 : Option Addr} {sl9 : Array (Option Value)} {oc9 kV9 dc9 pm9 cd9 ct9 : Value}
    {f10 : Addr} {od10 an10 : Option Addr} {sl10 : Array (Option Value)} {oc10 kV10 dc10 pm10 cd10 ct10 : Value}
    {f11 : Addr} {od11 an11 : Option Addr} {sl11 : Array (Option Value)} {oc11 kV11 dc11 pm11 cd11 ct11 : Value}
    {f12 : Addr} {od12 an12 : Option Addr} {sl12 : Array (Option Value)} {oc12 kV12 dc12 pm12 cd12 ct12 : Value}
    {f13 : Addr} {od13 an13 : Option Addr} {sl13 : Array (Option Value)} {oc13 kV13 dc13 pm13 cd13 ct13 : Value}
    {t_FIGURES : Tok}
    {t_MOST : Tok}
    {t_MOST_FIGURES : Tok}
    {r_NoDeed : Addr}
    {r_NoNumber : Addr}
    {r_NoRound : Addr}
    {r_NoRow : Addr}
    {r_NoSet : Addr}
    {r_NoSum : Addr}
    {r_NoText : Addr}
    {r_SetError : Addr}
    {r_TooMany : Addr}
    (a0 : PySem.W.nsIn K mainGlobals "is_whole" = some (some (.ref f0)))
    (l0 : K.lookup f0 = some ⟨oc0, od0, .func (PySem.W.fnOf "is_whole" "is_whole" (defArgs sIsWhole) (defBody sIsWhole) (defScope sIsWhole) .none kV0 dc0 pm0 an0 cd0 ct0), sl0⟩)
    (c0 : PySem.W.codeIn K cd0 "is_whole" = true)
    (k0 : PySem.W.keepIn K (.ref f0) = true)
    (a1 : PySem.W.nsIn K mainGlobals "is_set" = some (some (.ref f1)))
    (l1 : K.lookup f1 = some ⟨oc1, od1, .func (PySem.W.fnOf "is_set" "is_set" (defArgs sIsSet) (defBody sIsSet) (defScope sIsSet) .none kV1 dc1 pm1 an1 cd1 ct1), sl1⟩)
    (c1 : PySem.W.codeIn K cd1 "is_set" = true)
    (k1 : PySem.W.keepIn K (.ref f1) = true)
    (a2 : PySem.W.nsIn K mainGlobals "is_row" = some (some (.ref f2)))
    (l2 : K.lookup f2 = some ⟨oc2, od2, .func (PySem.W.fnOf "is_row" "is_row" (defArgs sIsRow) (defBody sIsRow) (defScope sIsRow) .none kV2 dc2 pm2 an2 cd2 ct2), sl2⟩)
    (c2 : PySem.W.codeIn K cd2 "is_row" = true)
    (k2 : PySem.W.keepIn K (.ref f2) = true)
    (a3 : PySem.W.nsIn K mainGlobals "is_number" = some (some (.ref f3)))
    (l3 : K.lookup f3 = some ⟨oc3, od3, .func (PySem.W.fnOf "is_number" "is_number" (defArgs sIsNumber) (defBody sIsNumber) (defScope sIsNumber) .none kV3 dc3 pm3 an3 cd3 ct3), sl3⟩)
    (c3 : PySem.W.codeIn K cd3 "is_number" = true)
    (k3 : PySem.W.keepIn K (.ref f3) = true)
    (a4 : PySem.W.nsIn K mainGlobals "whole_in" = some (some (.ref f4)))
    (l4 : K.lookup f4 = some ⟨oc4, od4, .func (PySem.W.fnOf "whole_in" "whole_in" (defArgs sWholeIn) (defBody sWholeIn) (defScope sWholeIn) .none kV4 dc4 pm4 an4 cd4 ct4), sl4⟩)
    (c4 : PySem.W.codeIn K cd4 "whole_in" = true)
    (k4 : PySem.W.keepIn K (.ref f4) = true)
    (a5 : PySem.W.nsIn K mainGlobals "check_text" = some (some (.ref f5)))
    (l5 : K.lookup f5 = some ⟨oc5, od5, .func (PySem.W.fnOf "check_text" "check_text" (defArgs sCheckText) (defBody sCheckText) (defScope sCheckText) .none kV5 dc5 pm5 an5 cd5 ct5), sl5⟩)
    (c5 : PySem.W.codeIn K cd5 "check_text" = true)
    (k5 : PySem.W.keepIn K (.ref f5) = true)
    (a6 : PySem.W.nsIn K mainGlobals "read_set" = some (some (.ref f6)))
    (l6 : K.lookup f6 = some ⟨oc6, od6, .func (PySem.W.fnOf "read_set" "read_set" (defArgs sReadSet) (defBody sReadSet) (defScope sReadSet) .none kV6 dc6 pm6 an6 cd6 ct6), sl6⟩)
    (c6 : PySem.W.codeIn K cd6 "read_set" = true)
    (k6 : PySem.W.keepIn K (.ref f6) = true)
    (a7 : PySem.W.nsIn K mainGlobals "read_row" = some (some (.ref f7)))
    (l7 : K.lookup f7 = some ⟨oc7, od7, .func (PySem.W.fnOf "read_row" "read_row" (defArgs sReadRow) (defBody sReadRow) (defScope sReadRow) .none kV7 dc7 pm7 an7 cd7 ct7), sl7⟩)
    (c7 : PySem.W.codeIn K cd7 "read_row" = true)
    (k7 : PySem.W.keepIn K (.ref f7) = true)
    (a8 : PySem.W.nsIn K mainGlobals "_law_draw" = some (some (.ref f8)))
    (l8 : K.lookup f8 = some ⟨oc8, od8, .func (PySem.W.fnOf "_law_draw" "_law_draw" (defArgs sLLawDraw) (defBody sLLawDraw) (defScope sLLawDraw) .none kV8 dc8 pm8 an8 cd8 ct8), sl8⟩)
    (c8 : PySem.W.codeIn K cd8 "_law_draw" = true)
    (k8 : PySem.W.keepIn K (.ref f8) = true)
    (a9 : PySem.W.nsIn K mainGlobals "_law_kinds" = some (some (.ref f9)))
    (l9 : K.lookup f9 = some ⟨oc9, od9, .func (PySem.W.fnOf "_law_kinds" "_law_kinds" (defArgs sLLawKinds) (defBody sLLawKinds) (defScope sLLawKinds) .none kV9 dc9 pm9 an9 cd9 ct9), sl9⟩)
    (c9 : PySem.W.codeIn K cd9 "_law_kinds" = true)
    (k9 : PySem.W.keepIn K (.ref f9) = true)
    (a10 : PySem.W.nsIn K mainGlobals "_law_said" = some (some (.ref f10)))
    (l10 : K.lookup f10 = some ⟨oc10, od10, .func (PySem.W.fnOf "_law_said" "_law_said" (defArgs sLLawSaid) (defBody sLLawSaid) (defScope sLLawSaid) .none kV10 dc10 pm10 an10 cd10 ct10), sl10⟩)
    (c10 : PySem.W.codeIn K cd10 "_law_said" = true)
    (k10 : PySem.W.keepIn K (.ref f10) = true)
    (a11 : PySem.W.nsIn K mainGlobals "_law_no_sets" = some (some (.ref f11)))
    (l11 : K.lookup f11 = some ⟨oc11, od11, .func (PySem.W.fnOf "_law_no_sets" "_law_no_sets" (defArgs sLLawNoSets) (defBody sLLawNoSets) (defScope sLLawNoSets) .none kV11 dc11 pm11 an11 cd11 ct11), sl11⟩)
    (c11 : PySem.W.codeIn K cd11 "_law_no_sets" = true)
    (k11 : PySem.W.keepIn K (.ref f11) = true)
    (a12 : PySem.W.nsIn K mainGlobals "_law_no_rows" = some (some (.ref f12)))
    (l12 : K.lookup f12 = some ⟨oc12, od12, .func (PySem.W.fnOf "_law_no_rows" "_law_no_rows" (defArgs sLLawNoRows) (defBody sLLawNoRows) (defScope sLLawNoRows) .none kV12 dc12 pm12 an12 cd12 ct12), sl12⟩)
    (c12 : PySem.W.codeIn K cd12 "_law_no_rows" = true)
    (k12 : PySem.W.keepIn K (.ref f12) = true)
    (a13 : PySem.W.nsIn K mainGlobals "law" = some (some (.ref f13)))
    (l13 : K.lookup f13 = some ⟨oc13, od13, .func (PySem.W.fnOf "law" "law" (defArgs sLaw) (defBody sLaw) (defScope sLaw) .none kV13 dc13 pm13 an13 cd13 ct13), sl13⟩)
    (c13 : PySem.W.codeIn K cd13 "law" = true)
    (k13 : PySem.W.keepIn K (.ref f13) = true)
    (z_ValueError : PySem.W.nsIn K mainGlobals "ValueError" = some none)
    (z_all : PySem.W.nsIn K mainGlobals "all" = some none)
    (z_bool : PySem.W.nsIn K mainGlobals "bool" = some none)
    (z_int : PySem.W.nsIn K mainGlobals "int" = some none)
    (z_isinstance : PySem.W.nsIn K mainGlobals "isinstance" = some none)
    (z_len : PySem.W.nsIn K mainGlobals "len" = some none)
    (z_range : PySem.W.nsIn K mainGlobals "range" = some none)
    (z_str : PySem.W.nsIn K mainGlobals "str" = some none)
    (z_tuple : PySem.W.nsIn K mainGlobals "tuple" = some none)
    (y_FIGURES : PySem.W.nsIn K mainGlobals "FIGURES" = some (some (.str "0123456789" t_FIGURES)))
    (y_MOST : PySem.W.nsIn K mainGlobals "MOST" = some (some (.int 60 t_MOST)))
    (y_MOST_FIGURES : PySem.W.nsIn K mainGlobals "MOST_FIGURES" = some (some (.int 60 t_MOST_FIGURES)))
    (e_NoDeed : PySem.W.nsIn K mainGlobals "NoDeed" = some (some (.ref r_NoDeed)))
    (e_NoNumber : PySem.W.nsIn K mainGlobals "NoNumber" = some (some (.ref r_NoNumber)))
    (e_NoRound : PySem.W.nsIn K mainGlobals "NoRound" = some (some (.ref r_NoRound)))
    (e_NoRow : PySem.W.nsIn K mainGlobals "NoRow" = some (some (.ref r_NoRow)))
    (e_NoSet : PySem.W.nsIn K mainGlobals "NoSet" = some (some (.ref r_NoSet)))
    (e_NoSum : PySem.W.nsIn K mainGlobals "NoSum" = some (some (.ref r_NoSum)))
    (e_NoText : PySem.W.nsIn K mainGlobals "NoText" = some (some (.ref r_NoText)))
    (e_SetError : PySem.W.nsIn K mainGlobals "SetError" = some (some (.ref r_SetError)))
    (e_TooMany : PySem.W.nsIn K mainGlobals "TooMany" = some (some (.ref r_TooMany)))
    (x_NoText : PySem.W.excIn K r_NoText [.type "ValueError", .type "Exception", .type "BaseException", .type "object"] "ValueError.__new__" = true)
    (ek_NoText : PySem.W.keepIn K (.ref r_NoText) = true)
    (es_NoText : PySem.W.subIn K (.ref r_NoText) (.type "BaseException") = some true)
    (et_NoText : PySem.W.typeIn K (.ref r_NoText) = some (.type "type"))
    (hn : PySem.W.specialIn K (.builtin "object.__class__") "__get__" = some (some (.builtin "getset_descriptor.__get__")))
    (ht : PySem.W.takesIn K (.builtin "object.__class__") = some true)
    (xa_NoText : PySem.W.findIn K (.ref r_NoText) "__getattribute__" = some (some (.builtin "BaseException.__getattribute__")))
    (xb_NoText : PySem.W.findIn K (.ref r_NoText) "__getattr__" = some none)
    (xd_NoText : PySem.W.hasDictIn K r_NoText = true)
    (xe_NoText : PySem.W.findIn K (.ref r_NoText) "__class__" = some (some (.builtin "object.__class__")))
    (xm_NoText : PySem.W.mroIn K r_NoText (.type "object") = some true)
    (xs_NoText : PySem.W.exmOne K (.ref r_NoText) (.ref r_SetError) = some true)
    (ki_NoText_NoDeed : PySem.W.kitOne K (.ref r_NoText) (.ref r_NoDeed) = some false)
    (ki_NoText_NoNumber : PySem.W.kitOne K (.ref r_NoText) (.ref r_NoNumber) = some false)
    (ki_NoText_NoRound : PySem.W.kitOne K (.ref r_NoText) (.ref r_NoRound) = some false)
    (ki_NoText_NoRow : PySem.W.kitOne K (.ref r_NoText) (.ref r_NoRow) = some false)
    (ki_NoText_NoSet : PySem.W.kitOne K (.ref r_NoText) (.ref r_NoSet) = some false)
    (ki_NoText_NoSum : PySem.W.kitOne K (.ref r_NoText) (.ref r_NoSum) = some false)
    (ki_NoText_NoText : PySem.W.kitOne K (.ref r_NoText) (.ref r_NoText) = some true)
    (ki_NoText_TooMany : PySem.W.kitOne K (.ref r_NoText) (.ref r_TooMany) = some false)
    (ki_NoText_ValueError : PySem.W.kitOne K (.ref r_NoText) (.type "ValueError") = some true)
    : Top K mg :=
  {
    a_is_whole := f0, d_is_whole := _, F_is_whole := fun_mk (st := sIsWhole) l0 c0 k0, g_is_whole := PySem.W.mg_of X G a0, b_is_whole := (fun_mk (st := sIsWhole) l0 c0 k0).binds (ps := PIsWhole) fun _ _ _ _ _ _ us hl => match us, hl with | [_], _ => rfl,
    a_is_set := f1, d_is_set := _, F_is_set := fun_mk (st := sIsSet) l1 c1 k1, g_is_set := PySem.W.mg_of X G a1, b_is_set := (fun_mk (st := sIsSet) l1 c1 k1).binds (ps := PIsSet) fun _ _ _ _ _ _ us hl => match us, hl with | [_], _ => rfl,
    a_is_row := f2, d_is_row := _, F_is_row := fun_mk (st := sIsRow) l2 c2 k2, g_is_row := PySem.W.mg_of X G a2, b_is_row := (fun_mk (st := sIsRow) l2 c2 k2).binds (ps := PIsRow) fun _ _ _ _ _ _ us hl => match us, hl with | [_], _ => rfl,
    a_is_number := f3, d_is_number := _, F_is_number := fun_mk (st := sIsNumber) l3 c3 k3, g_is_number := PySem.W.mg_of X G a3, b_is_number := (fun_mk (st := sIsNumber) l3 c3 k3).binds (ps := PIsNumber) fun _ _ _ _ _ _ us hl => match us, hl with | [_], _ => rfl,
    a_whole_in := f4, d_whole_in := _, F_whole_in := fun_mk (st := sWholeIn) l4 c4 k4, g_whole_in := PySem.W.mg_of X G a4, b_whole_in := (fun_mk (st := sWholeIn) l4 c4 k4).binds (ps := PWholeIn) fun _ _ _ _ _ _ us hl => match us, hl with | [_], _ => rfl,
    a_check_text := f5, d_check_text := _, F_check_text := fun_mk (st := sCheckText) l5 c5 k5, g_check_text := PySem.W.mg_of X G a5, b_check_text := (fun_mk (st := sCheckText) l5 c5 k5).binds (ps := PCheckText) fun _ _ _ _ _ _ us hl => match us, hl with | [_], _ => rfl,
    a_read_set := f6, d_read_set := _, F_read_set := fun_mk (st := sReadSet) l6 c6 k6, g_read_set := PySem.W.mg_of X G a6, b_read_set := (fun_mk (st := sReadSet) l6 c6 k6).binds (ps := PReadSet) fun _ _ _ _ _ _ us hl => match us, hl with | [_], _ => rfl,
    a_read_row := f7, d_read_row := _, F_read_row := fun_mk (st := sReadRow) l7 c7 k7, g_read_row := PySem.W.mg_of X G a7, b_read_row := (fun_mk (st := sReadRow) l7 c7 k7).binds (ps := PReadRow) fun _ _ _ _ _ _ us hl => match us, hl with | [_], _ => rfl,
    a__law_draw := f8, d__law_draw := _, F__law_draw := fun_mk (st := sLLawDraw) l8 c8 k8, g__law_draw := PySem.W.mg_of X G a8, b__law_draw := (fun_mk (st := sLLawDraw) l8 c8 k8).binds (ps := PLLawDraw) fun _ _ _ _ _ _ us hl => match us, hl with | [_, _, _], _ => rfl,
    a__law_kinds := f9, d__law_kinds := _, F__law_kinds := fun_mk (st := sLLawKinds) l9 c9 k9, g__law_kinds := PySem.W.mg_of X G a9, b__law_kinds := (fun_mk (st := sLLawKinds) l9 c9 k9).binds (ps := PLLawKinds) fun _ _ _ _ _ _ us hl => match us, hl with | [_], _ => rfl,
    a__law_said := f10, d__law_said := _, F__law_said := fun_mk (st := sLLawSaid) l10 c10 k10, g__law_said := PySem.W.mg_of X G a10, b__law_said := (fun_mk (st := sLLawSaid) l10 c10 k10).binds (ps := PLLawSaid) fun _ _ _ _ _ _ us hl => match us, hl with | [_, _], _ => rfl,
    a__law_no_sets := f11, d__law_no_sets := _, F__law_no_sets := fun_mk (st := sLLawNoSets) l11 c11 k11, g__law_no_sets := PySem.W.mg_of X G a11, b__law_no_sets := (fun_mk (st := sLLawNoSets) l11 c11 k11).binds (ps := PLLawNoSets) fun _ _ _ _ _ _ us hl => match us, hl with | [_], _ => rfl,
    a__law_no_rows := f12, d__law_no_rows := _, F__law_no_rows := fun_mk (st := sLLawNoRows) l12 c12 k12, g__law_no_rows := PySem.W.mg_of X G a12, b__law_no_rows := (fun_mk (st := sLLawNoRows) l12 c12 k12).binds (ps := PLLawNoRows) fun _ _ _ _ _ _ us hl => match us, hl with | [_], _ => rfl,
    a_law := f13, d_law := _, F_law := fun_mk (st := sLaw) l13 c13 k13, g_law := PySem.W.mg_of X G a13, b_law := (fun_mk (st := sLaw) l13 c13 k13).binds (ps := PLaw) fun _ _ _ _ _ _ us hl => match us, hl with | [_], _ => rfl,
    m_ValueError := PySem.W.mg_none_of X G z_ValueError,
    m_all := PySem.W.mg_none_of X G z_all,
    m_bool := PySem.W.mg_none_of X G z_bool,
    m_int := PySem.W.mg_none_of X G z_int,
    m_isinstance := PySem.W.mg_none_of X G z_isinstance,
    m_len := PySem.W.mg_none_of X G z_len,
    m_range := PySem.W.mg_none_of X G z_range,
    m_str := PySem.W.mg_none_of X G z_str,
    m_tuple := PySem.W.mg_none_of X G z_tuple,
    t_FIGURES := t_FIGURES, c_FIGURES := PySem.W.mg_of X G y_FIGURES,
    t_MOST := t_MOST, c_MOST := PySem.W.mg_of X G y_MOST,
    t_MOST_FIGURES := t_MOST_FIGURES, c_MOST_FIGURES := PySem.W.mg_of X G y_MOST_FIGURES,
    r_NoDeed := r_NoDeed, e_NoDeed := PySem.W.mg_of X G e_NoDeed,
    r_NoNumber := r_NoNumber, e_NoNumber := PySem.W.mg_of X G e_NoNumber,
    r_NoRound := r_NoRound, e_NoRound := PySem.W.mg_of X G e_NoRound,
    r_NoRow := r_NoRow, e_NoRow := PySem.W.mg_of X G e_NoRow,
    r_NoSet := r_NoSet, e_NoSet := PySem.W.mg_of X G e_NoSet,
    r_NoSum := r_NoSum, e_NoSum := PySem.W.mg_of X G e_NoSum,
    r_NoText := r_NoText, e_NoText := PySem.W.mg_of X G e_NoText,
    r_SetError := r_SetError, e_SetError := PySem.W.mg_of X G e_SetError,
    r_TooMany := r_TooMany, e_TooMany := PySem.W.mg_of X G e_TooMany,
    x_NoText := x_NoText, k_NoText := ek_NoText, s_NoText := es_NoText, t_NoText := et_NoText,
    hn := hn,
    ht := ht,
    xa_NoText := xa_NoText,
    xb_NoText := xb_NoText,
    xd_NoText := xd_NoText,
    xe_NoText := xe_NoText,
    xm_NoText := xm_NoText,
    xs_NoText := xs_NoText,
    ki_NoText_NoDeed := ki_NoText_NoDeed,
    ki_NoText_NoNumber := ki_NoText_NoNumber,
    ki_NoText_NoRound := ki_NoText_NoRound,
    ki_NoText_NoRow := ki_NoText_NoRow,
    ki_NoText_NoSet := ki_NoText_NoSet,
    ki_NoText_NoSum := ki_NoText_NoSum,
    ki_NoText_NoText := ki_NoText_NoText,
    ki_NoText_TooMany := ki_NoText_TooMany,
    ki_NoText_ValueError := ki_NoText_ValueError
  }
theorem all_mk {l : PySem.W.OpenLaw} {w : World} {K : PySem.W.Frag} {h : Heap} {mg : Str → Option Value} {fa : Addr} (X : K.In h) (G : h.Ns mainGlobals mg) (hfa : mg "law" = some (.ref fa))
    {f0 : Addr} {od0 an0 : Option Addr} {sl0 : Array (Option Value)} {oc0 kV0 dc0 pm0 cd0 ct0 : Value}
    {f1 : Addr} {od1 an1 : Option Addr} {sl1 : Array (Option Value)} {oc1 kV1 dc1 pm1 cd1 ct1 : Value}
    {f2 : Addr} {od2 an2 : Option Addr} {sl2 : Array (Option Value)} {oc2 kV2 dc2 pm2 cd2 ct2 : Value}
    {f3 : Addr} {od3 an3 : Option Addr} {sl3 : Array (Option Value)} {oc3 kV3 dc3 pm3 cd3 ct3 : Value}
    {f4 : Addr} {od4 an4 : Option Addr} {sl4 : Array (Option Value)} {oc4 kV4 dc4 pm4 cd4 ct4 : Value}
    {f5 : Addr} {od5 an5 : Option Addr} {sl5 : Array (Option Value)} {oc5 kV5 dc5 pm5 cd5 ct5 : Value}
    {f6 : Addr} {od6 an6 : Option Addr} {sl6 : Array (Option Value)} {oc6 kV6 dc6 pm6 cd6 ct6 : Value}
    {f7 : Addr} {od7 an7 : Option Addr} {sl7 : Array (Option Value)} {oc7 kV7 dc7 pm7 cd7 ct7 : Value}
    {f8 : Addr} {od8 an8 : Option Addr} {sl8 : Array (Option Value)} {oc8 kV8 dc8 pm8 cd8 ct8 : Value}
    {f9 : Addr} {od9 an9 : Option Addr} {sl9 : Array (Option Value)} {oc9 kV9 dc9 pm9 cd9 ct9 : Value}
    {f10 : Addr} {od10 an10 : Option Addr} {sl10 : Array (Option Value)} {oc10 kV10 dc10 pm10 cd10 ct10 : Value}
    {f11 : Addr} {od11 an11 : Option Addr} {sl11 : Array (Option Value)} {oc11 kV11 dc11 pm11 cd11 ct11 : Value}
    {f12 : Addr} {od12 an12 : Option Addr} {sl12 : Array (Option Value)} {oc12 kV12 dc12 pm12 cd12 ct12 : Value}
    {f13 : Addr} {od13 an13 : Option Addr} {sl13 : Array (Option Value)} {oc13 kV13 dc13 pm13 cd13 ct13 : Value}
    {t_FIGURES : Tok}
    {t_MOST : Tok}
    {t_MOST_FIGURES : Tok}
    {r_NoDeed : Addr}
    {r_NoNumber : Addr}
    {r_NoRound : Addr}
    {r_NoRow : Addr}
    {r_NoSet : Addr}
    {r_NoSum : Addr}
    {r_NoText : Addr}
    {r_SetError : Addr}
    {r_TooMany : Addr}
    (a0 : PySem.W.nsIn K mainGlobals "is_whole" = some (some (.ref f0)))
    (l0 : K.lookup f0 = some ⟨oc0, od0, .func (PySem.W.fnOf "is_whole" "is_whole" (defArgs sIsWhole) (defBody sIsWhole) (defScope sIsWhole) .none kV0 dc0 pm0 an0 cd0 ct0), sl0⟩)
    (c0 : PySem.W.codeIn K cd0 "is_whole" = true)
    (k0 : PySem.W.keepIn K (.ref f0) = true)
    (a1 : PySem.W.nsIn K mainGlobals "is_set" = some (some (.ref f1)))
    (l1 : K.lookup f1 = some ⟨oc1, od1, .func (PySem.W.fnOf "is_set" "is_set" (defArgs sIsSet) (defBody sIsSet) (defScope sIsSet) .none kV1 dc1 pm1 an1 cd1 ct1), sl1⟩)
    (c1 : PySem.W.codeIn K cd1 "is_set" = true)
    (k1 : PySem.W.keepIn K (.ref f1) = true)
    (a2 : PySem.W.nsIn K mainGlobals "is_row" = some (some (.ref f2)))
    (l2 : K.lookup f2 = some ⟨oc2, od2, .func (PySem.W.fnOf "is_row" "is_row" (defArgs sIsRow) (defBody sIsRow) (defScope sIsRow) .none kV2 dc2 pm2 an2 cd2 ct2), sl2⟩)
    (c2 : PySem.W.codeIn K cd2 "is_row" = true)
    (k2 : PySem.W.keepIn K (.ref f2) = true)
    (a3 : PySem.W.nsIn K mainGlobals "is_number" = some (some (.ref f3)))
    (l3 : K.lookup f3 = some ⟨oc3, od3, .func (PySem.W.fnOf "is_number" "is_number" (defArgs sIsNumber) (defBody sIsNumber) (defScope sIsNumber) .none kV3 dc3 pm3 an3 cd3 ct3), sl3⟩)
    (c3 : PySem.W.codeIn K cd3 "is_number" = true)
    (k3 : PySem.W.keepIn K (.ref f3) = true)
    (a4 : PySem.W.nsIn K mainGlobals "whole_in" = some (some (.ref f4)))
    (l4 : K.lookup f4 = some ⟨oc4, od4, .func (PySem.W.fnOf "whole_in" "whole_in" (defArgs sWholeIn) (defBody sWholeIn) (defScope sWholeIn) .none kV4 dc4 pm4 an4 cd4 ct4), sl4⟩)
    (c4 : PySem.W.codeIn K cd4 "whole_in" = true)
    (k4 : PySem.W.keepIn K (.ref f4) = true)
    (a5 : PySem.W.nsIn K mainGlobals "check_text" = some (some (.ref f5)))
    (l5 : K.lookup f5 = some ⟨oc5, od5, .func (PySem.W.fnOf "check_text" "check_text" (defArgs sCheckText) (defBody sCheckText) (defScope sCheckText) .none kV5 dc5 pm5 an5 cd5 ct5), sl5⟩)
    (c5 : PySem.W.codeIn K cd5 "check_text" = true)
    (k5 : PySem.W.keepIn K (.ref f5) = true)
    (a6 : PySem.W.nsIn K mainGlobals "read_set" = some (some (.ref f6)))
    (l6 : K.lookup f6 = some ⟨oc6, od6, .func (PySem.W.fnOf "read_set" "read_set" (defArgs sReadSet) (defBody sReadSet) (defScope sReadSet) .none kV6 dc6 pm6 an6 cd6 ct6), sl6⟩)
    (c6 : PySem.W.codeIn K cd6 "read_set" = true)
    (k6 : PySem.W.keepIn K (.ref f6) = true)
    (a7 : PySem.W.nsIn K mainGlobals "read_row" = some (some (.ref f7)))
    (l7 : K.lookup f7 = some ⟨oc7, od7, .func (PySem.W.fnOf "read_row" "read_row" (defArgs sReadRow) (defBody sReadRow) (defScope sReadRow) .none kV7 dc7 pm7 an7 cd7 ct7), sl7⟩)
    (c7 : PySem.W.codeIn K cd7 "read_row" = true)
    (k7 : PySem.W.keepIn K (.ref f7) = true)
    (a8 : PySem.W.nsIn K mainGlobals "_law_draw" = some (some (.ref f8)))
    (l8 : K.lookup f8 = some ⟨oc8, od8, .func (PySem.W.fnOf "_law_draw" "_law_draw" (defArgs sLLawDraw) (defBody sLLawDraw) (defScope sLLawDraw) .none kV8 dc8 pm8 an8 cd8 ct8), sl8⟩)
    (c8 : PySem.W.codeIn K cd8 "_law_draw" = true)
    (k8 : PySem.W.keepIn K (.ref f8) = true)
    (a9 : PySem.W.nsIn K mainGlobals "_law_kinds" = some (some (.ref f9)))
    (l9 : K.lookup f9 = some ⟨oc9, od9, .func (PySem.W.fnOf "_law_kinds" "_law_kinds" (defArgs sLLawKinds) (defBody sLLawKinds) (defScope sLLawKinds) .none kV9 dc9 pm9 an9 cd9 ct9), sl9⟩)
    (c9 : PySem.W.codeIn K cd9 "_law_kinds" = true)
    (k9 : PySem.W.keepIn K (.ref f9) = true)
    (a10 : PySem.W.nsIn K mainGlobals "_law_said" = some (some (.ref f10)))
    (l10 : K.lookup f10 = some ⟨oc10, od10, .func (PySem.W.fnOf "_law_said" "_law_said" (defArgs sLLawSaid) (defBody sLLawSaid) (defScope sLLawSaid) .none kV10 dc10 pm10 an10 cd10 ct10), sl10⟩)
    (c10 : PySem.W.codeIn K cd10 "_law_said" = true)
    (k10 : PySem.W.keepIn K (.ref f10) = true)
    (a11 : PySem.W.nsIn K mainGlobals "_law_no_sets" = some (some (.ref f11)))
    (l11 : K.lookup f11 = some ⟨oc11, od11, .func (PySem.W.fnOf "_law_no_sets" "_law_no_sets" (defArgs sLLawNoSets) (defBody sLLawNoSets) (defScope sLLawNoSets) .none kV11 dc11 pm11 an11 cd11 ct11), sl11⟩)
    (c11 : PySem.W.codeIn K cd11 "_law_no_sets" = true)
    (k11 : PySem.W.keepIn K (.ref f11) = true)
    (a12 : PySem.W.nsIn K mainGlobals "_law_no_rows" = some (some (.ref f12)))
    (l12 : K.lookup f12 = some ⟨oc12, od12, .func (PySem.W.fnOf "_law_no_rows" "_law_no_rows" (defArgs sLLawNoRows) (defBody sLLawNoRows) (defScope sLLawNoRows) .none kV12 dc12 pm12 an12 cd12 ct12), sl12⟩)
    (c12 : PySem.W.codeIn K cd12 "_law_no_rows" = true)
    (k12 : PySem.W.keepIn K (.ref f12) = true)
    (a13 : PySem.W.nsIn K mainGlobals "law" = some (some (.ref f13)))
    (l13 : K.lookup f13 = some ⟨oc13, od13, .func (PySem.W.fnOf "law" "law" (defArgs sLaw) (defBody sLaw) (defScope sLaw) .none kV13 dc13 pm13 an13 cd13 ct13), sl13⟩)
    (c13 : PySem.W.codeIn K cd13 "law" = true)
    (k13 : PySem.W.keepIn K (.ref f13) = true)
    (z_ValueError : PySem.W.nsIn K mainGlobals "ValueError" = some none)
    (z_all : PySem.W.nsIn K mainGlobals "all" = some none)
    (z_bool : PySem.W.nsIn K mainGlobals "bool" = some none)
    (z_int : PySem.W.nsIn K mainGlobals "int" = some none)
    (z_isinstance : PySem.W.nsIn K mainGlobals "isinstance" = some none)
    (z_len : PySem.W.nsIn K mainGlobals "len" = some none)
    (z_range : PySem.W.nsIn K mainGlobals "range" = some none)
    (z_str : PySem.W.nsIn K mainGlobals "str" = some none)
    (z_tuple : PySem.W.nsIn K mainGlobals "tuple" = some none)
    (y_FIGURES : PySem.W.nsIn K mainGlobals "FIGURES" = some (some (.str "0123456789" t_FIGURES)))
    (y_MOST : PySem.W.nsIn K mainGlobals "MOST" = some (some (.int 60 t_MOST)))
    (y_MOST_FIGURES : PySem.W.nsIn K mainGlobals "MOST_FIGURES" = some (some (.int 60 t_MOST_FIGURES)))
    (e_NoDeed : PySem.W.nsIn K mainGlobals "NoDeed" = some (some (.ref r_NoDeed)))
    (e_NoNumber : PySem.W.nsIn K mainGlobals "NoNumber" = some (some (.ref r_NoNumber)))
    (e_NoRound : PySem.W.nsIn K mainGlobals "NoRound" = some (some (.ref r_NoRound)))
    (e_NoRow : PySem.W.nsIn K mainGlobals "NoRow" = some (some (.ref r_NoRow)))
    (e_NoSet : PySem.W.nsIn K mainGlobals "NoSet" = some (some (.ref r_NoSet)))
    (e_NoSum : PySem.W.nsIn K mainGlobals "NoSum" = some (some (.ref r_NoSum)))
    (e_NoText : PySem.W.nsIn K mainGlobals "NoText" = some (some (.ref r_NoText)))
    (e_SetError : PySem.W.nsIn K mainGlobals "SetError" = some (some (.ref r_SetError)))
    (e_TooMany : PySem.W.nsIn K mainGlobals "TooMany" = some (some (.ref r_TooMany)))
    (x_NoText : PySem.W.excIn K r_NoText [.type "ValueError", .type "Exception", .type "BaseException", .type "object"] "ValueError.__new__" = true)
    (ek_NoText : PySem.W.keepIn K (.ref r_NoText) = true)
    (es_NoText : PySem.W.subIn K (.ref r_NoText) (.type "BaseException") = some true)
    (et_NoText : PySem.W.typeIn K (.ref r_NoText) = some (.type "type"))
    (hn : PySem.W.specialIn K (.builtin "object.__class__") "__get__" = some (some (.builtin "getset_descriptor.__get__")))
    (ht : PySem.W.takesIn K (.builtin "object.__class__") = some true)
    (xa_NoText : PySem.W.findIn K (.ref r_NoText) "__getattribute__" = some (some (.builtin "BaseException.__getattribute__")))
    (xb_NoText : PySem.W.findIn K (.ref r_NoText) "__getattr__" = some none)
    (xd_NoText : PySem.W.hasDictIn K r_NoText = true)
    (xe_NoText : PySem.W.findIn K (.ref r_NoText) "__class__" = some (some (.builtin "object.__class__")))
    (xm_NoText : PySem.W.mroIn K r_NoText (.type "object") = some true)
    (xs_NoText : PySem.W.exmOne K (.ref r_NoText) (.ref r_SetError) = some true)
    (ki_NoText_NoDeed : PySem.W.kitOne K (.ref r_NoText) (.ref r_NoDeed) = some false)
    (ki_NoText_NoNumber : PySem.W.kitOne K (.ref r_NoText) (.ref r_NoNumber) = some false)
    (ki_NoText_NoRound : PySem.W.kitOne K (.ref r_NoText) (.ref r_NoRound) = some false)
    (ki_NoText_NoRow : PySem.W.kitOne K (.ref r_NoText) (.ref r_NoRow) = some false)
    (ki_NoText_NoSet : PySem.W.kitOne K (.ref r_NoText) (.ref r_NoSet) = some false)
    (ki_NoText_NoSum : PySem.W.kitOne K (.ref r_NoText) (.ref r_NoSum) = some false)
    (ki_NoText_NoText : PySem.W.kitOne K (.ref r_NoText) (.ref r_NoText) = some true)
    (ki_NoText_TooMany : PySem.W.kitOne K (.ref r_NoText) (.ref r_TooMany) = some false)
    (ki_NoText_ValueError : PySem.W.kitOne K (.ref r_NoText) (.type "ValueError") = some true)
    : ∃ fd : FuncData, (∀ (s : Shared) (v : Value), BindsTo s fd ⟨[v], []⟩ [("_law_script", v)]) ∧ ∀ base : Heap, K.In base → base.Ns mainGlobals mg → FnOk l.prog w K mg base (L2.CX l.prog w) 5 fa fd PLaw (spLaw K) := by
  have e := hfa.symm.trans (PySem.W.mg_of X G a13)
  cases e
  exact ⟨_, fun s v => .of_eq rfl, fun base _ _ => law_ok (mkTop X G a0 l0 c0 k0 a1 l1 c1 k1 a2 l2 c2 k2 a3 l3 c3 k3 a4 l4 c4 k4 a5 l5 c5 k5 a6 l6 c6 k6 a7 l7 c7 k7 a8 l8 c8 k8 a9 l9 c9 k9 a10 l10 c10 k10 a11 l11 c11 k11 a12 l12 c12 k12 a13 l13 c13 k13 z_ValueError z_all z_bool z_int z_isinstance z_len z_range z_str z_tuple y_FIGURES y_MOST y_MOST_FIGURES e_NoDeed e_NoNumber e_NoRound e_NoRow e_NoSet e_NoSum e_NoText e_SetError e_TooMany x_NoText ek_NoText es_NoText et_NoText hn ht xa_NoText xb_NoText xd_NoText xe_NoText xm_NoText xs_NoText ki_NoText_NoDeed ki_NoText_NoNumber ki_NoText_NoRound ki_NoText_NoRow ki_NoText_NoSet ki_NoText_NoSum ki_NoText_NoText ki_NoText_TooMany ki_NoText_ValueError) law_pure⟩
end Fl
open PySem PySem.W PyProof.Rows
set_option maxHeartbeats 0 in
theorem PySem.Challenge.cw_fewsumlots_k82_no_texts_holds : PySem.Challenge.rw_fewsumlots_k82_no_texts.Holds := by
  w_on; o_law; k_head; (case hw => w_witness2)
  k_fill
  refine L2.walk_of (l := PySem.Challenge.rw_fewsumlots_k82_no_texts) (n := 63) (k := 5) (x := "_law_script") (CX := fun w => L2.CX (PySem.Challenge.rw_fewsumlots_k82_no_texts).prog w) (sp := fun w => Fl.spLaw _) rfl (by decide) rfl ⟨rfl, by decide, by decide⟩ (fun w h Y => PySem.W.kIn_of Y) ?F (fun _ _ a ns hl _ hS => ⟨a, ns, rfl, hS, hl, fun _ => rfl⟩) (fun _ _ _ _ _ h => by
    obtain ⟨_, _, _, _, _, _, _, _, _, _, _, _, z⟩ := h
    exact z)
  case F =>
    intro w mg fa h KX G hmg
    refine' Fl.all_mk KX G hmg ?a0 ?l0 ?c0 ?k0 ?a1 ?l1 ?c1 ?k1 ?a2 ?l2 ?c2 ?k2 ?a3 ?l3 ?c3 ?k3 ?a4 ?l4 ?c4 ?k4 ?a5 ?l5 ?c5 ?k5 ?a6 ?l6 ?c6 ?k6 ?a7 ?l7 ?c7 ?k7 ?a8 ?l8 ?c8 ?k8 ?a9 ?l9 ?c9 ?k9 ?a10 ?l10 ?c10 ?k10 ?a11 ?l11 ?c11 ?k11 ?a12 ?l12 ?c12 ?k12 ?a13 ?l13 ?c13 ?k13 ?z_ValueError ?z_all ?z_bool ?z_int ?z_isinstance ?z_len ?z_range ?z_str ?z_tuple ?y_FIGURES ?y_MOST ?y_MOST_FIGURES ?e_NoDeed ?e_NoNumber ?e_NoRound ?e_NoRow ?e_NoSet ?e_NoSum ?e_NoText ?e_SetError ?e_TooMany ?x_NoText ?ek_NoText ?es_NoText ?et_NoText ?hn ?ht ?xa_NoText ?xb_NoText ?xd_NoText ?xe_NoText ?xm_NoText ?xs_NoText ?ki_NoText_NoDeed ?ki_NoText_NoNumber ?ki_NoText_NoRound ?ki_NoText_NoRow ?ki_NoText_NoSet ?ki_NoText_NoSum ?ki_NoText_NoText ?ki_NoText_TooMany ?ki_NoText_ValueError
    (case a0 => k_is)
    (case l0 => k_is)
    (case c0 => k_is)
    (case k0 => k_is)
    (case a1 => k_is)
    (case l1 => k_is)
    (case c1 => k_is)
    (case k1 => k_is)
    (case a2 => k_is)
    (case l2 => k_is)
    (case c2 => k_is)
    (case k2 => k_is)
    (case a3 => k_is)
    (case l3 => k_is)
    (case c3 => k_is)
    (case k3 => k_is)
    (case a4 => k_is)
    (case l4 => k_is)
    (case c4 => k_is)
    (case k4 => k_is)
    (case a5 => k_is)
    (case l5 => k_is)
    (case c5 => k_is)
    (case k5 => k_is)
    (case a6 => k_is)
    (case l6 => k_is)
    (case c6 => k_is)
    (case k6 => k_is)
    (case a7 => k_is)
    (case l7 => k_is)
    (case c7 => k_is)
    (case k7 => k_is)
    (case a8 => k_is)
    (case l8 => k_is)
    (case c8 => k_is)
    (case k8 => k_is)
    (case a9 => k_is)
    (case l9 => k_is)
    (case c9 => k_is)
    (case k9 => k_is)
    (case a10 => k_is)
    (case l10 => k_is)
    (case c10 => k_is)
    (case k10 => k_is)
    (case a11 => k_is)
    (case l11 => k_is)
    (case c11 => k_is)
    (case k11 => k_is)
    (case a12 => k_is)
    (case l12 => k_is)
    (case c12 => k_is)
    (case k12 => k_is)
    (case a13 => k_is)
    (case l13 => k_is)
    (case c13 => k_is)
    (case k13 => k_is)
    (case z_ValueError => k_is)
    (case z_all => k_is)
    (case z_bool => k_is)
    (case z_int => k_is)
    (case z_isinstance => k_is)
    (case z_len => k_is)
    (case z_range => k_is)
    (case z_str => k_is)
    (case z_tuple => k_is)
    (case y_FIGURES => k_is)
    (case y_MOST => k_is)
    (case y_MOST_FIGURES => k_is)
    (case e_NoDeed => k_is)
    (case e_NoNumber => k_is)
    (case e_NoRound => k_is)
    (case e_NoRow => k_is)
    (case e_NoSet => k_is)
    (case e_NoSum => k_is)
    (case e_NoText => k_is)
    (case e_SetError => k_is)
    (case e_TooMany => k_is)
    (case x_NoText => first | k_is | k_exc)
    (case ek_NoText => k_is)
    (case es_NoText => k_is)
    (case et_NoText => k_is)
    (case hn => first | k_is | k_exc | rfl | decide +kernel)
    (case ht => first | k_is | k_exc | rfl | decide +kernel)
    (case xa_NoText => first | k_is | k_exc | rfl | decide +kernel)
    (case xb_NoText => first | k_is | k_exc | rfl | decide +kernel)
    (case xd_NoText => first | k_is | k_exc | rfl | decide +kernel)
    (case xe_NoText => first | k_is | k_exc | rfl | decide +kernel)
    (case xm_NoText => first | k_is | k_exc | rfl | decide +kernel)
    (case xs_NoText => first | k_is | k_exc | rfl | decide +kernel)
    (case ki_NoText_NoDeed => kit_is)
    (case ki_NoText_NoNumber => kit_is)
    (case ki_NoText_NoRound => kit_is)
    (case ki_NoText_NoRow => kit_is)
    (case ki_NoText_NoSet => kit_is)
    (case ki_NoText_NoSum => kit_is)
    (case ki_NoText_NoText => kit_is)
    (case ki_NoText_TooMany => kit_is)
    (case ki_NoText_ValueError => kit_is)

