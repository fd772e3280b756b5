import PyProof.Rows.All
import Wide.All
import OpenK.AllK
import Wide.FinOn
import HandS.ForMost
import HandS.Exc
import HandS.TryOnly
import HandS.ExcOwn
import HandS.WordsExc
import HandS.TupAny
import HandS.TupMul
import HandS.TupLe
import HandS.Style
import HandS.Deep
import HandS.IsInst
import HandS.Zip
import HandS.SortInts
import HandS.Conv
import HandS.Defaults
import KE.GoesEnum
import KE.GoesMore
import HandS.Words
import HandS.Head0
import HandS.Head1
import HandS.Head2
import HandS.HeadEnd
import HandS.HeadHook1
import HandS.HeadHook2
import HandS.Ends
import KE.KStateDown
import Lean
import HandS.HotCalls
import HandS.ExcIs
import HandS.OwnEq
import HandS.Sort
import HandS.SortOrd
import HandS.SortRule
import HandS.SortKw
import HandS.TupSets
import HandS.SetFor
import HandS.Strs
import HandS.SetKeys
import HandS.StrMore
import HandS.StrSplit
import HandS.Codes
import HandS.Small
import HandS.Rev
import HandS.RevTup
import HandS.CallLocal
import HandS.CallSlots
import HandS.ListItems
import HandS.DictComp
import HandS.SetBool
import HandS.Flow
import HandS.TupLen
import HandS.DictTup
import KE.KCallOwn
import KE.KeyNested
import KE.KDictKeyed
import KE.SortData
import KE.KTupSum
import KE.KDictPairs
import KE.GoesNew
import KE.KIndexOf
import PySem.Challenge.RW_askahead_k09_refused

set_option Elab.async false
set_option linter.all false
set_option maxRecDepth 100000
/-! MiZ: zip of two sequences, each a list or a tuple, by the kit's GoesN. -/
namespace MiZ
open PySem PySem.Spec PyProof.Rows L2
/-- true: a list; false: a tuple -/
def Sq2 (k : Bool) (K : PySem.W.Frag) (H : Hp) (a : Addr) (xs : List V) : Prop := match k with
  | true => SqL K H a xs
  | false => SqT K H a xs
def ItAt (k : Bool) (h : Heap) (it a : Addr) (i : Nat) : Prop := match k with
  | true => h.IsListIter it a i
  | false => h.IsTupleIter it a i
def HpAt (k : Bool) (a : Addr) (items : Array Value) (h : Heap) : Prop := match k with
  | true => h.IsList a items
  | false => h.IsTuple a items
theorem Sq2.heap {X : Cx} {pins : List (Addr × Obj)} {σ : L2.St} {H : Hp} {s : Shared} {a : Addr} {xs : List V} : ∀ {k : Bool}, Inv X pins σ H s → Sq2 k X.K H a xs → ∃ its : List Value, Vals xs its ∧ HpAt k a its.toArray s.heap
  | true, I, h => by
    obtain ⟨its, r, p, _⟩ := I.list h
    exact ⟨its, r, p.isList⟩
  | false, I, h => by
    obtain ⟨its, r, p, _⟩ := I.tuple h
    exact ⟨its, r, p⟩
theorem Sq2.same {X : Cx} {pins : List (Addr × Obj)} {σ : L2.St} {H : Hp} {s : Shared} {a : Addr} {xs ys : List V} : ∀ {k : Bool}, Inv X pins σ H s → Sq2 k X.K H a xs → Sq2 k X.K H a ys → xs = ys
  | true, I, h, h' => I.list_inj h h'
  | false, I, h, h' => I.tuple_inj h h'
theorem ItAt.obj {h : Heap} {it a : Addr} {i : Nat} : ∀ {k : Bool}, ItAt k h it a i → ∃ o, h.get? it = some o ∧ ∀ v, o.data ≠ .cell v
  | true, ⟨o, e, _, d⟩ => ⟨o, e, fun v q => by rw [d] at q; cases q⟩
  | false, ⟨o, e, _, d⟩ => ⟨o, e, fun v q => by rw [d] at q; cases q⟩
theorem ItAt.keep {h h' : Heap} {it a : Addr} {i : Nat} : ∀ {k : Bool}, ItAt k h it a i → (∀ o, h.get? it = some o → h'.get? it = some o) → ItAt k h' it a i
  | true, x, q => Heap.IsListIter.at x q
  | false, x, q => Heap.IsTupleIter.at x q
theorem draws {P : Program} {w : World} {A : Around} (hh : A.handled = none) (it a : Addr) (hne : a ≠ it) (items : Array Value) : ∀ k : Bool, Draws P w A it [it, a] items.size (fun i v => items[i]? = some v) (fun i h => ItAt k h it a i ∧ HpAt k a items h)
  | true => Draws.list hh it a hne items
  | false => Draws.tuple hh it a hne items
theorem begins (a : Addr) (items : Array Value) : ∀ k : Bool, ∃ o, Begins (.ref a) o (HpAt k a items) ∧ ∀ h it, h.get? it = some o → ItAt k h it a 0
  | true => ⟨_, begins_list a items, fun _ _ e => ⟨_, e, rfl, rfl⟩⟩
  | false => ⟨_, begins_tuple a items, fun _ _ e => ⟨_, e, rfl, rfl⟩⟩
theorem HpAt.lt {a : Addr} {items : Array Value} {h : Heap} : ∀ {k : Bool}, HpAt k a items h → a < h.objs.size
  | true, ⟨_, e, _⟩ => Heap.lt_size e
  | false, ⟨_, e, _⟩ => Heap.lt_size e
def ItP (k l : Bool) (K : PySem.W.Frag) (a b : Addr) : It :=
  ⟨fun i H => ∃ (xs ys : List V) (x y : V), Sq2 k K H a xs ∧ Sq2 l K H b ys ∧ xs[i]? = some x ∧ ys[i]? = some y,
   fun i H v H' => ∃ T x y, v = .ref T ∧ H T = none ∧ H' = upd H T (.tup [x, y]) ∧ (∀ xs, Sq2 k K H a xs → xs[i]? = some x) ∧ ∀ ys, Sq2 l K H b ys → ys[i]? = some y,
   fun i H => ∃ xs ys : List V, Sq2 k K H a xs ∧ Sq2 l K H b ys ∧ i = min xs.length ys.length⟩
def Stand (k l : Bool) (a b N : Addr) (i : Nat) (h : Heap) : Prop :=
  IsZip h (N + 4 : Nat) (N + 2 : Nat) (N + 3 : Nat) .none ∧ IsTupOf2 h (N + 2 : Nat) (.ref N) (.ref (N + 1 : Nat)) ∧ (∃ u v, IsTupOf2 h (N + 3 : Nat) u v) ∧ ItAt k h N a i ∧ ItAt l h (N + 1 : Nat) b i
def cells (N : Addr) : List Addr := [(N + 4 : Nat), (N + 2 : Nat), (N + 3 : Nat), N, (N + 1 : Nat)]
theorem turns {P : Program} {w : World} {K : PySem.W.Frag} {elts : List Expr} {kk : Nat} {tpos : Pos} {a b N : Addr} (k l : Bool) (ha : a < N) (hb : b < N) : Turn P w K (.Tuple elts kk tpos) (ItP k l K a b) (cells N) (N + 4 : Nat) (Stand k l a b N) where
  mem := by simp [cells]
  obj := fun i h st c hc => by
    obtain ⟨s1, s2, ⟨u, v, s3⟩, s4, s5⟩ := st
    simp only [cells, List.mem_cons, List.not_mem_nil, or_false] at hc
    rcases hc with rfl | rfl | rfl | rfl | rfl
    · exact ⟨_, s1, nofun⟩
    · exact ⟨_, s2, nofun⟩
    · exact ⟨_, s3, nofun⟩
    · exact s4.obj
    · exact s5.obj
  keep := fun i h h' st q => by
    obtain ⟨s1, s2, ⟨u, v, s3⟩, s4, s5⟩ := st
    exact ⟨q _ (by simp [cells]) _ s1, q _ (by simp [cells]) _ s2, ⟨u, v, q _ (by simp [cells]) _ s3⟩, s4.keep (q _ (by simp [cells])), s5.keep (q _ (by simp [cells]))⟩
  item := by
    intro X hP hw hK hc i pins s σ H E I hf st hg
    subst hP hw hK
    obtain ⟨xs, ys, x, y, qx, qy, gx, gy⟩ := hg
    obtain ⟨us, rx, px⟩ := qx.heap I
    obtain ⟨vs, ry, py⟩ := qy.heap I
    obtain ⟨u, eu, ru⟩ := rx.get gx
    obtain ⟨v, ev, rv⟩ := ry.get gy
    have hh : X.A.in1.handled = none := I.ok.hd hc
    have hs := zip_sep2 (N := N) (fp1 := [a]) (fp2 := [b]) (by simpa using ha) (by simpa using hb)
    have G := GoesN.zip2 (elts := elts) (x1 := kk) (pos := tpos) hs (draws (P := X.prog) (w := X.w) hh N a (Nat.ne_of_lt ha) us.toArray k) (draws (P := X.prog) (w := X.w) hh (N + 1 : Nat) b (Nat.ne_of_lt (Nat.lt_succ_of_lt hb)) vs.toArray l)
    obtain ⟨s1, s2, s3, s4, s5⟩ := st
    have hi1 : i < us.length := (List.getElem?_eq_some_iff.mp eu).1
    have hi2 : i < vs.length := (List.getElem?_eq_some_iff.mp ev).1
    refine G.goes i s _ E (by simp; omega) ⟨s1, s2, s3, ⟨s4, px⟩, ⟨s5, py⟩⟩ fun r h' tk hY st' old _ => ?_
    obtain ⟨T, u', v', rfl, hT, e1, e2, hTu⟩ := hY
    have e1 : us[i]? = some u' := by simpa using e1
    have e2 : vs[i]? = some v' := by simpa using e2
    rw [eu] at e1
    rw [ev] at e2
    cases e1
    cases e2
    obtain ⟨t1, t2, t3, ⟨t4, _⟩, ⟨t5, _⟩⟩ := st'
    have lay : ObjOk X.prog X.w (upd H T (.tup [x, y])) h' T (.tup [x, y]) := ⟨by show 2 ≤ sizeLine; decide, [u, v], .cons ru (.cons rv .nil), hTu⟩
    have J := I.turnedNew (t' := tk) (ch := cells N) (fun c o hn q => old c o (fun z => hn (by simp [cells] at z ⊢; rcases z with z | z | z | z <;> simp [z])) q) hf hT lay
    refine ⟨.ref T, _, J, rfl, ⟨T, x, y, rfl, I.hok.fresh hT, rfl, fun z hz => by rw [hz.same I qx]; exact gx, fun z hz => by rw [hz.same I qy]; exact gy⟩, ⟨t1, t2, t3, t4, t5⟩, fun c hcm => ?_⟩
    have hlt : c < s.heap.objs.size := by
      simp only [cells, List.mem_cons, List.not_mem_nil, or_false] at hcm
      obtain ⟨_, _, s3⟩ := s3
      obtain ⟨_, z4, _⟩ := s4.obj
      obtain ⟨_, z5, _⟩ := s5.obj
      rcases hcm with rfl | rfl | rfl | rfl | rfl
      · exact Heap.lt_size s1
      · exact Heap.lt_size s2
      · exact Heap.lt_size s3
      · exact Heap.lt_size z4
      · exact Heap.lt_size z5
    rw [upd_ne (Nat.ne_of_lt (Nat.lt_of_lt_of_le hlt hT))]
    exact (hf c hcm).1
  done := by
    intro X hP hw hK hc i pins s σ H E I hf st hg
    subst hP hw hK
    obtain ⟨xs, ys, qx, qy, rfl⟩ := hg
    obtain ⟨us, rx, px⟩ := qx.heap I
    obtain ⟨vs, ry, py⟩ := qy.heap I
    have hh : X.A.in1.handled = none := I.ok.hd hc
    have hs := zip_sep2 (N := N) (fp1 := [a]) (fp2 := [b]) (by simpa using ha) (by simpa using hb)
    have G := GoesN.zip2 (elts := elts) (x1 := kk) (pos := tpos) hs (draws (P := X.prog) (w := X.w) hh N a (Nat.ne_of_lt ha) us.toArray k) (draws (P := X.prog) (w := X.w) hh (N + 1 : Nat) b (Nat.ne_of_lt (Nat.lt_succ_of_lt hb)) vs.toArray l)
    obtain ⟨s1, s2, s3, s4, s5⟩ := st
    rw [rx.length, ry.length] at s4 s5
    refine G.stops s _ E ⟨s1, s2, s3, ⟨s4, px⟩, ⟨s5, py⟩⟩ fun h' tk old _ => ?_
    exact I.turnedL (t' := tk) (ch := cells N) (fun c o hn q => old c o (fun z => hn (by simp [cells] at z ⊢; rcases z with z | z | z | z <;> simp [z])) q) hf
  self := fun A i s Q E st h => wpAny_pyIter_zip st.1 h
def wZip (K : PySem.W.Frag) (ta : TA) : TI := fun σ H R => ta σ H fun vs H1 => ∃ k l a b xs ys, vs = [.ref a, .ref b] ∧ Sq2 k K H1 a xs ∧ Sq2 l K H1 b ys ∧ R (ItP k l K a b) H1
theorem zips {X : Cx} {e e2 : Expr} {ta : TA} {p pos tpos : Pos} {elts : List Expr} {kk : Nat} (hg : Gl X "zip") (hm : X.mg "zip" = none) (ha : PA X [e, e2] ta)
    (hs : starEach [e, e2] X.env = (false, eval e X.env) :: starEach [e2] X.env) (hpl : (backTo pos (starEach [e2] X.env)).any (·.1) = false) :
    PI X (.Tuple elts kk tpos) (.Call (.Name "zip" p) [e, e2] [] pos) (wZip X.K ta) := ⟨fun pins s σ H R I h => by
  refine Call_ (ld_blt I hg hm PyProof.Rows.boot_zip (PyProof.Rows.callWith_type1 (thn (ha.run pos pins s σ H _ I h) fun us s1 hu => ?_) hs hpl))
  obtain ⟨vs, H1, J, r, k, l, a, b, xs, ys, rfl, qx, qy, q⟩ := hu
  obtain ⟨va, vb, rfl, ra, rb⟩ : ∃ va vb, us = [va, vb] ∧ RelV (.ref a) va ∧ RelV (.ref b) vb := by
    cases r with
    | cons r1 r =>
      cases r with
      | cons r2 r => cases r; exact ⟨_, _, rfl, r1, r2⟩
  cases ra
  cases rb
  obtain ⟨is, _, px⟩ := qx.heap J
  obtain ⟨js, _, py⟩ := qy.heap J
  obtain ⟨o1, B1, f1⟩ := begins a is.toArray k
  obtain ⟨o2, B2, f2⟩ := begins b js.toArray l
  refine zip_begins2 B1 B2 px py fun h' z1 z2 z3 z4 z5 _ old => wpAny_pyIter_zip z1 ?_
  refine ⟨_, cells s1.heap.objs.size, _, _, H1, rfl, J.kept (t' := s1.toks) old, turns k l px.lt py.lt, ⟨z1, z2, ⟨_, _, z3⟩, f1 _ _ z4, f2 _ _ z5⟩, fun c hcm => ?_, q⟩
  have hle : s1.heap.objs.size ≤ c := by
    simp only [cells, List.mem_cons, List.not_mem_nil, or_false] at hcm
    rcases hcm with rfl | rfl | rfl | rfl | rfl
    all_goals first | exact Nat.le_refl _ | exact Nat.le_add_right _ _
  exact J.fpOk hle (J.hok.fresh hle)⟩
end MiZ

set_option Elab.async false
set_option linter.all false
set_option maxRecDepth 100000
/-! MiX: a list grown by a tuple's items. -/
namespace MiX
open PySem PySem.Spec PyProof.Rows L2
theorem grow_tup (l b : Addr) (xs ys : Array Value) (n m : Nat) (z1 : ¬(!xs.isEmpty && Builtin.List.listTooLong (xs.size + ys.size)) = true) (z2 : xs.size ≤ sizeLine) (z3 : xs.size + ys.size ≤ sizeLine + 1) :
    Meets (Builtin.«list.extend» ⟨[.ref l, .ref b], []⟩) (fun _ R s => s.heap.get? l = some { cls := .type "list", dict := none, data := .seq xs n, slots := #[] } ∧ (∃ o, s.heap.get? b = some o ∧ o.cls = .type "tuple" ∧ o.data = .seq ys m) ∧ R (.ok (.ret Value.none)) { s with heap := s.heap.update l (Obj.mapSeq fun x => x ++ ys), toks := s.toks }) := by
  refine .of_wp fun prog w A R s q => ?_
  obtain ⟨hp, g, d, tk, os⟩ := s
  obtain ⟨hl, ⟨o, hb, hc, hd⟩, q⟩ := q
  obtain ⟨oc, od, oa, os2⟩ := o
  cases hc
  cases hd
  have f1 := PySem.AutoSeq1.idx_int
  have f2 := PySem.AutoSeq1.sub_tuple_tuple
  have f3 := PySem.AutoSeq1.sub_list_list
  have f4 := PySem.AutoSeq1.sub_tuple_list
  have f5 := PySem.AutoSeq1.sub_list_tuple
  have z4 : (xs ++ ys).size ≤ sizeLine + 1 := by rw [Array.size_append]; exact z3
  wp_walk using (wpAny_updateSeq hl rfl (hz := z2) (_hz' := z4)), PySem.AutoSeq1.wpAny_loadPart' hl, PySem.AutoSeq1.wpAny_loadPart' hb
  exact ⟨_, rfl, q⟩
section
variable {X : Cx}
def rGrow (K : PySem.W.Frag) : V → List V → Hp → VK → Prop := fun x vs H Q => ∃ l b xs zs, x = .ref l ∧ vs = [.ref b] ∧ H l = some (.lst xs) ∧ (H b = some (.lst zs) ∨ SqT K H b zs) ∧ xs.length + zs.length ≤ sizeLine ∧ Q .non (upd H l (.lst (xs ++ zs)))
theorem mt_grow : MtM X "list.extend" (rGrow X.K) := by
  intro pins s σ H x vs v us Q I rx rv q
  obtain ⟨l, b, xs, zs, rfl, rfl, hl, hb, hz, q⟩ := q
  rcases hb with hb | hb
  · exact mt_extend pins s σ H _ _ v us Q I rx rv ⟨l, b, xs, zs, rfl, rfl, hl, hb, hz, q⟩
  · cases rx
    obtain ⟨u, rfl, ru⟩ := rv.one
    cases ru
    obtain ⟨_, is1, n1, r1, len1, at1⟩ := I.lstM hl
    obtain ⟨is2, r2, ⟨o, ho, hc, m, hd⟩, _⟩ := I.tuple hb
    have len2 := r2.length
    have zz : is1.toArray.size + is2.toArray.size ≤ sizeLine := by rw [List.size_toArray, List.size_toArray, ← len1, ← len2]; exact hz
    have far : ¬ (!is1.toArray.isEmpty && Builtin.List.listTooLong (is1.toArray.size + is2.toArray.size)) = true := fun e => by
      rw [notLongL zz, Bool.and_false] at e
      cases e
    refine call_meets F.slot_list_extend ⟨_, at1, rfl⟩ F.entry_list_extend (F.args_list_extend_2 _ _) (grow_tup l b is1.toArray is2.toArray n1 m far (by omega) (by omega)) ⟨at1, ⟨o, ho, hc, hd⟩, ?_⟩
    refine ⟨.non, _, I.lset (its' := is1 ++ is2) hl at1 (by simp) (r1.append r2) ?_, rfl, q⟩
    rw [List.length_append]
    exact hz
end
end MiX

set_option Elab.async false
set_option linter.all false
set_option maxRecDepth 100000
/-! MiC: {e for a in s for b in a}: a set of ints. -/
namespace MiC
open PySem PySem.Spec PyProof.Rows L2
abbrev SC (elt t0 i0 t1 i1 : Expr) (sc : Scope) (pos : Pos) : Expr := .SetComp elt [⟨t0, i0, [], 0⟩, ⟨t1, i1, [], 0⟩] sc pos
theorem turn0 (elt t0 i0 t1 i1 : Expr) (sc : Scope) (pos : Pos) (it acc : Value) (env : Env) : compTurn (SC elt t0 i0 t1 i1 sc pos) 0 it acc env = (do
    standAt i0.pos
    match ← pyNext it with
    | none => pure (.done .next)
    | some v =>
      letOwnedTupleGo t0 it v
      assign t0 env v
      let x ← eval i1 env
      standAt i1.pos
      let xf ← foldedSetIterable i1 env x
      let _ ← runOwn (.compStart (SC elt t0 i0 t1 i1 sc pos) 1 (← holding [xf] (pyIter xf)) acc env) env
      again (.compLoop (SC elt t0 i0 t1 i1 sc pos) 0 it acc env)) := by rfl
theorem turn1 (elt t0 i0 t1 i1 : Expr) (sc : Scope) (pos : Pos) (it acc : Value) (env : Env) : compTurn (SC elt t0 i0 t1 i1 sc pos) 1 it acc env = (do
    standAt i1.pos
    match ← pyNext it with
    | none => pure (.done .next)
    | some v =>
      letOwnedTupleGo t1 it v
      assign t1 env v
      (do let xv ← eval elt env; standAt elt.pos; let _ ← call (.builtin "set.add") [acc, xv])
      again (.compLoop (SC elt t0 i0 t1 i1 sc pos) 1 it acc env)) := by rfl
section
variable {prog : Program} {w : World} {A : Around} {R : Result → Shared → Prop} {s : Shared} {elt t0 i0 t1 i1 : Expr} {sc : Scope} {pos : Pos} {it acc : Value} {env : Env}
/-- an error leaves -/
abbrev Off (prog : Program) (w : World) (A : Around) (env : Env) (R : Result → Shared → Prop) : Value → Shared → Prop := notedBy (model prog w) A env fun x s' => R (.error x) s'
theorem loop0 (hs : ∀ x, foldedSetIterable i1 env x = pure x) (J : Nat → Shared → Prop)
    (go : ∀ n s, J n s → wpAny (model prog w) A (pyNext it) (fun o sa => match o with
      | none => R (.ok .next) sa
      | some v => wpAny (model prog w) A (letOwnedTupleGo t0 it v) (fun _ sb => wpAny (model prog w) A (assign t0 env v) (fun _ sc' =>
          wpAny (model prog w) A (eval i1 env) (fun x sd => wpAny (model prog w) A (pyIter x) (fun jt se =>
            codeAny (model prog w) A (.compStart (SC elt t0 i0 t1 i1 sc pos) 1 jt acc env) (fun o s' => match o with
              | .ok _ => ∃ m, m < n ∧ J m s'
              | .error _ => False) se) (Off prog w A env R) sd) (Off prog w A env R) sc') (Off prog w A env R) sb) (Off prog w A env R) sa) (Off prog w A env R) s)
    (n : Nat) (h : J n s) : codeAny (model prog w) A (.compLoop (SC elt t0 i0 t1 i1 sc pos) 0 it acc env) R s := by
  refine codeAny_loop rfl J (fun n s hJ => ?_) n h
  show wpAny _ A ((compTurn (SC elt t0 i0 t1 i1 sc pos) 0 it acc env).onRaise (fun x => do noteFrame x env; theTreesLotGoes x)) _ _ s
  refine wpAny_noted ?_
  rw [turn0]
  refine wpAny_bind (wpAny_standAt (wpAny_bind (wpAny_mono (go n s hJ) (fun o sa ha => ?_) fun _ _ z => z)))
  cases o with
  | none => exact wpAny_pure ha
  | some v =>
    refine wpAny_bind (wpAny_mono ha (fun _ sb hb => ?_) fun _ _ z => z)
    refine wpAny_bind (wpAny_mono hb (fun _ sc' hc => ?_) fun _ _ z => z)
    refine wpAny_bind (wpAny_mono hc (fun x sd hd => ?_) fun _ _ z => z)
    refine wpAny_bind (wpAny_standAt (wpAny_bind (wpAny_of_eq (hs x) (wpAny_bind (wpAny_holding (wpAny_mono hd (fun jt se he => ?_) fun _ _ z => z))))))
    refine wpAny_bind (wpAny_runOwn ?_); rw [Around.mark_none]
    refine codeAny_mono he fun o s' ho => ?_
    cases o with
    | error e => exact ho.elim
    | ok f => first | exact wpAny_pure ⟨rfl, ho⟩ | exact wpAny_bind (wpAny_pure (wpAny_pure ⟨rfl, ho⟩))
theorem loop1 (J : Nat → Shared → Prop)
    (go : ∀ n s, J n s → wpAny (model prog w) A (pyNext it) (fun o sa => match o with
      | none => R (.ok .next) sa
      | some v => wpAny (model prog w) A (letOwnedTupleGo t1 it v) (fun _ sb => wpAny (model prog w) A (assign t1 env v) (fun _ sc' =>
          wpAny (model prog w) A (eval elt env) (fun x sd => wpAny (model prog w) A (call (.builtin "set.add") [acc, x]) (fun _ se => ∃ m, m < n ∧ J m se) (Off prog w A env R) sd) (Off prog w A env R) sc') (Off prog w A env R) sb) (Off prog w A env R) sa) (Off prog w A env R) s)
    (n : Nat) (h : J n s) : codeAny (model prog w) A (.compLoop (SC elt t0 i0 t1 i1 sc pos) 1 it acc env) R s := by
  refine codeAny_loop rfl J (fun n s hJ => ?_) n h
  show wpAny _ A ((compTurn (SC elt t0 i0 t1 i1 sc pos) 1 it acc env).onRaise (fun x => do noteFrame x env; theTreesLotGoes x)) _ _ s
  refine wpAny_noted ?_
  rw [turn1]
  refine wpAny_bind (wpAny_standAt (wpAny_bind (wpAny_mono (go n s hJ) (fun o sa ha => ?_) fun _ _ z => z)))
  cases o with
  | none => exact wpAny_pure ha
  | some v =>
    refine wpAny_bind (wpAny_mono ha (fun _ sb hb => ?_) fun _ _ z => z)
    refine wpAny_bind (wpAny_mono hb (fun _ sc' hc => ?_) fun _ _ z => z)
    refine wpAny_bind (wpAny_bind (wpAny_mono hc (fun x sd hd => ?_) fun _ _ z => z))
    exact wpAny_bind (wpAny_standAt (wpAny_bind (wpAny_mono hd (fun _ se he => wpAny_pure (wpAny_pure (And.intro rfl he))) fun _ _ z => z)))
theorem start1 (h0 : codeAny (model prog w) A (.compLoop (SC elt t0 i0 t1 i1 sc pos) 1 it acc env) R s)
    (h : wpAny (model prog w) A (pyIter it) (fun jt s' => codeAny (model prog w) A (.compLoop (SC elt t0 i0 t1 i1 sc pos) 1 jt acc env) R s') (Off prog w A env R) s) :
    codeAny (model prog w) A (.compStart (SC elt t0 i0 t1 i1 sc pos) 1 it acc env) R s := by
  refine codeAny_of_tree ?_
  show wpAny _ _ ((compStart (SC elt t0 i0 t1 i1 sc pos) 1 it acc env).onRaise (fun x => do noteFrame x env; standAt theWindowsPlace)) _ _ s
  refine wpAny_notedAt ?_
  unfold compStart
  refine (show wpAny _ _ (ask >>= _) _ _ s from wpAny_bind (wpAny_askSetting (wpAny_ite ?_)))
  split
  · first | exact wpAny_pure ⟨rfl, h0⟩ | exact wpAny_bind (wpAny_pure (wpAny_pure ⟨rfl, h0⟩))
  · refine wpAny_bind (wpAny_rule ?_); show wpAny _ _ (standAt i1.pos >>= _) _ _ s
    exact wpAny_bind (wpAny_standAt (wpAny_bind (wpAny_mono h (fun jt s' z => wpAny_pure (And.intro rfl z)) fun _ _ z => z)))
end
section
variable {X : Cx}
/-- the set's next item -/
theorem adds {pins : List (Addr × Obj)} {σ : L2.St} {H : Hp} {s : Shared} {E : Value → Shared → Prop} {D : Addr} {S : Int → Bool} {n : Nat} {c : Int} {u : Value} {Q : Value → Shared → Prop} (I : Inv X pins σ H s) (hD : H D = some (L2.SetO X.w D S n)) (room : n + 1 < scanBound) (hu : RelV (.int c) u)
    (h : ∀ s', Inv X pins σ (upd H D (L2.SetO X.w D (fun j => S j || decide (j = c)) (if S c = true then n else n + 1))) s' → Q .none s') : wpAny (model X.prog X.w) X.A (call (.builtin "set.add") [.ref D, u]) Q E s := by
  obtain ⟨tk, rfl⟩ := hu
  refine setR_add (L2.setO_get I hD) room fun h' same new => ?_
  obtain ⟨o, _, _, _, ho, _⟩ := id new
  exact h _ (I.write (e := D) (t' := s.toks + 1) (by rw [hD]; trivial) (.inl rfl) (fun b v hb hv => (same.2 b hb).trans hv) ⟨o, ho⟩ (L2.setO_new new))
abbrev nul (w : World) (D : Addr) : HO := L2.SetO w D (fun _ => false) 0
/-- what the comprehension asks for: the walk of the outer source, within each turn the walk of the inner one; D the new set -/
def tS2 (w : World) (wi : TI) (g : TG) (wi1 : TI) (g1 : TG) (te : TE) (vs vs1 : List Nat) : TE := fun σ H Q => wi σ H fun J Ha => ∀ D, Ha D = none → ∃ W : Nat → Nat → Hp → Prop, (∃ m, W 0 m (upd Ha D (nul w D))) ∧ ∀ i m H, W i m H →
  (J.stop i H ∧ Q (.ref D) H) ∨ (J.go i H ∧ ∃ N : Hp → Prop, (∀ H', N H' → ∃ m', m' < m ∧ W (i + 1) m' H') ∧ ∀ x Hb, J.yld i H x Hb → g x (wipe σ vs) Hb fun σ2 Hc => wipe σ2 vs = wipe σ vs ∧
    wi1 σ2 Hc fun K Hd => ∃ V : Nat → Nat → Hp → Prop, (∃ m, V 0 m Hd) ∧ ∀ j k H, V j k H →
      (K.stop j H ∧ N H) ∨ (K.go j H ∧ ∃ M : Hp → Prop, (∀ H', M H' → ∃ k', k' < k ∧ V (j + 1) k' H') ∧ ∀ y He, K.yld j H y He → g1 y (wipe σ2 vs1) He fun σ3 Hf => wipe σ3 vs1 = wipe σ2 vs1 ∧
        te σ3 Hf fun z Hg => ∃ (c : Int) (S : Int → Bool) (n : Nat), z = .int c ∧ Hg D = some (L2.SetO w D S n) ∧ n + 1 < scanBound ∧ M (upd Hg D (L2.SetO w D (fun j => S j || decide (j = c)) (if S c = true then n else n + 1)))))
abbrev Every (X : Cx) (sc : Scope) (P : Cx → Prop) : Prop := ∀ (s : Shared) (H : Hp) (C : Addr) (cl : List (PySem.Str × Addr)) (fp : List Addr), P (X.blk s H sc (compEnvC sc cl C X.env) fp)
theorem pe_sc2 {elt t0 i0 t1 i1 : Expr} {sc : Scope} {own : List (PySem.Str × Nat)} {vs1 : List Nat} {pos : Pos} {wi wi1 : TI} {g g1 : TG} {te : TE} (hc : X.calm = true) (hN : X.N.Nodup) (hi : PI X t0 i0 wi) (ok : BlkOk X.N X.env.scope sc own) (hv : ∀ i ∈ vs1, i ∈ own.map (·.2))
    (hg : Every X sc fun Y => PG Y t0 g) (hi1 : Every X sc fun Y => PI Y t1 i1 wi1) (hg1 : Every X sc fun Y => PG Y t1 g1) (he : Every X sc fun Y => PE Y elt te) (hs : ∀ x, foldedSetIterable i0 X.env x = pure x) (hs1 : ∀ env x, foldedSetIterable i1 env x = pure x) :
    PE X (SC elt t0 i0 t1 i1 sc pos) (tS2 X.w wi g wi1 g1 te (own.map (·.2)) vs1) := by
  refine ⟨fun pins s σ H Q I h => ?_⟩; rw [PpSet.eval_SetComp]
  have cells : ∀ y ∈ sc.names, y.2 = .free → ∃ c, X.env.cells.lookup y.1 = some c := fun y hy e => (ok.free y hy e).elim (fun z => I.ok.has _ (.inl z)) fun z => I.ok.has _ (.inr z)
  refine wpAny_comprehension_free rfl hs (closure_ok cells) ok.kind (fun y hy e => by rw [ok.uniq y hy, e]) (thn (hi.run pins s σ H _ I h) fun xv sa hx => thn hx fun iv sb hb => ?_)
  obtain ⟨it, fp, tn, J, Ha, rfl, Ia, T, sta, fa, q⟩ := hb
  refine PpSet.newSet_ok (newEnv_comp ?_)
  generalize hD : sb.heap.objs.size = D
  obtain ⟨W, ⟨m0, w0⟩, step⟩ := q D (Ia.hok.fresh (Nat.le_of_eq hD))
  obtain ⟨ob, hob⟩ : ∃ ob : Obj, ob = { cls := .type "set", dict := none, data := .set #[] 0 (.fresh 0 0 (!X.w.params.followText "set-order")) } := ⟨_, rfl⟩
  rw [← hob]
  obtain ⟨sc3, hsc3⟩ : ∃ z : Shared, z = { sb with heap := sb.heap.push ob } := ⟨_, rfl⟩
  rw [← hsc3]
  have grown : ∀ b o, sb.heap.get? b = some o → sc3.heap.get? b = some o := fun b o e => by rw [hsc3]; exact Heap.get?_push_of_some _ e
  have sized : sc3.heap.objs.size = sb.heap.objs.size + 1 := by rw [hsc3]; exact Heap.size_push ..
  have Ib : Inv X pins σ (upd Ha D (nul X.w D)) sc3 := by
    rw [hsc3]
    refine Ia.laid (t' := sb.toks) (fun b o e => Heap.get?_push_of_some _ e) (Nat.le_of_eq hD) ?_
    rw [← hD, hob]
    exact L2.setO_new (setR_fresh X.w)
  generalize hHb : upd Ha D (nul X.w D) = Hb at Ib w0
  have under : ∀ b ∈ fp, b < sb.heap.objs.size := fun b hb => (T.obj _ _ sta b hb).elim fun o z => Heap.lt_size z.1
  have fb : ∀ b ∈ fp, FpOk X pins Hb b ∧ b < sc3.heap.objs.size := fun b hb => by
    refine ⟨⟨?_, (fa b hb).2⟩, Nat.lt_of_lt_of_le (under b hb) (by rw [sized]; exact Nat.le_succ _)⟩
    rw [← hHb, upd_ne (Nat.ne_of_lt (hD ▸ under b hb))]
    exact (fa b hb).1
  have stb : tn 0 sc3.heap := T.keep _ _ _ sta fun b _ o e => grown b o e
  have Ic := block_start Ib ok hN fb
  have pg := hg sc3 Hb sc3.heap.objs.size (cellsFrom (sc3.heap.objs.size + 1) sc.names (cloFrom X.env.cells sc.names [])) fp
  have pj := hi1 sc3 Hb sc3.heap.objs.size (cellsFrom (sc3.heap.objs.size + 1) sc.names (cloFrom X.env.cells sc.names [])) fp
  have ph := hg1 sc3 Hb sc3.heap.objs.size (cellsFrom (sc3.heap.objs.size + 1) sc.names (cloFrom X.env.cells sc.names [])) fp
  have pe := he sc3 Hb sc3.heap.objs.size (cellsFrom (sc3.heap.objs.size + 1) sc.names (cloFrom X.env.cells sc.names [])) fp
  obtain ⟨ce, hce⟩ : ∃ ce : Env, ce = compEnvC sc (cellsFrom (sc3.heap.objs.size + 1) sc.names (cloFrom X.env.cells sc.names [])) sc3.heap.objs.size X.env := ⟨_, rfl⟩
  rw [← hce] at Ic pg pj ph pe
  have home : ce.locals = sc3.heap.objs.size := by rw [hce]; rfl
  obtain ⟨sd, hsd⟩ : ∃ z : Shared, z = { sc3 with heap := pushCells (sc3.heap.push { cls := .type "dict", data := .dict #[] }) sc.names } := ⟨_, rfl⟩
  rw [← hsd] at Ic
  have std : tn 0 sd.heap := T.keep _ _ _ stb fun b _ o e => by rw [hsd]; exact pushCells_keeps _ _ _ _ (Heap.get?_push_of_some _ e)
  have bare : ∀ {σ' : L2.St} {H' : Hp} {s' : Shared}, L2.Inv (X.blk sc3 Hb sc ce fp) [] σ' H' s' → (∀ b ∈ fp, H' b = none) → ∀ b ∈ fp, FpOk (X.blk sc3 Hb sc ce fp) [] H' b := fun I' hn b hb => by
    obtain ⟨y1, y2⟩ := I'.ok.exf b hb
    refine ⟨hn b hb, y1, I'.ok.exfs b hb, .inl hb, fun x c e => y2 x c e, fun p hp => ?_⟩
    have hp : p ∈ ([] : List (Addr × Obj)) ++ [] := hp
    simp at hp
  have outer : codeAny (model X.prog X.w) X.A (.compLoop (SC elt t0 i0 t1 i1 sc pos) 0 (.ref it) (.ref D) ce) (compPost (model X.prog X.w) X.A X.xe none (EP X pins σ Q) (.ref D) sc3.heap.objs.size) sd := by
    refine loop0 (hs1 ce) (fun n s' => ∃ i H', L2.Inv (X.blk sc3 Hb sc ce fp) [] (wipe σ (own.map (·.2))) H' s' ∧ tn i s'.heap ∧ (∀ b ∈ fp, H' b = none) ∧ W i n H') ?_ m0 ⟨0, Hb, Ic, std, fun b hb => (fb b hb).1.1, w0⟩
    rintro n sE ⟨i, HE, IE, stE, nE, wE⟩
    rcases step i n HE wE with ⟨stop, qq⟩ | ⟨go, N, hNx, turn⟩
    · refine thnF (T.done (X.blk sc3 Hb sc ce fp) rfl rfl rfl hc i [] sE _ HE (fun _ _ => False) IE (bare IE nE) stE stop) fun o sF ⟨ho, IF⟩ => ?_
      subst ho
      have IG : L2.Inv X pins σ HE sF := Ib.call' (ch := fp) IF.os IF.base IF.hok IF.bare fun b hb => by
        obtain ⟨⟨_, a1, a2, a3, a4, a5⟩, _⟩ := fb b hb
        exact ⟨a3, a1, a4, a5⟩
      have gone : HE sc3.heap.objs.size = none := by
        have z : HE ce.locals = none := IF.free
        rwa [home] at z
      obtain ⟨m, hn, _⟩ := IF.loc
      have hn : sF.heap.Ns ce.locals m := hn
      rw [home] at hn
      obtain ⟨f0, f1, _, f3, f4, f5⟩ := Ib.fpOk (Nat.le_refl _) gone
      exact ⟨m, hn, fun h2 same => ⟨.ref D, HE, IG.turned (t' := sF.toks) (fun b o hb e => (same.2 b hb).trans e) f0 f1 f3 f4 f5, rfl, qq⟩⟩
    · refine thnF (T.item (X.blk sc3 Hb sc ce fp) rfl rfl rfl hc i [] sE _ HE (fun _ _ => False) IE (bare IE nE) stE go) fun o sF ⟨u, ho, hF⟩ => ?_
      subst ho
      refine thnF hF fun _ sG ⟨x, HG, IG, rG, yG, stG, nG⟩ => ?_
      have PG7 := IG.pinned (bare IG nG) (T.obj _ _ stG)
      refine thnF (pg.run _ sG _ HG x u _ PG7 rG (turn x HG yG)) fun _ s8 ⟨σ8, H8, I8, hw8, q8⟩ => ?_
      -- one turn of the outer walk is through
      have through : ∀ {σ9 : L2.St} {s' : Shared} {H' : Hp}, L2.Inv (X.blk sc3 Hb sc ce fp) ([] ++ pinsAt fp sG.heap) σ9 H' s' → (wipe σ (own.map (·.2))).length = σ9.length → (∀ (j : Nat) v, (wipe σ (own.map (·.2)))[j]? = some (some v) → σ9[j]? = some (some v)) → N H' → ∃ m, m < n ∧ ∃ i H', L2.Inv (X.blk sc3 Hb sc ce fp) [] (wipe σ (own.map (·.2))) H' s' ∧ tn i s'.heap ∧ (∀ b ∈ fp, H' b = none) ∧ W i m H' := fun {σ9 s' H'} I' len old nx => by
        obtain ⟨m', lt, w'⟩ := hNx H' nx
        have pinned : ∀ b ∈ fp, ∀ o, sG.heap.get? b = some o → s'.heap.get? b = some o ∧ H' b = none := fun b hb o e => by
          obtain ⟨p1, p2, _⟩ := I'.pin (b, o) (List.mem_append_right _ (List.mem_append_right _ (mem_pinsAt hb e)))
          exact ⟨p1, p2⟩
        refine ⟨m', lt, i + 1, H', (I'.unpinned (pins := [])).weak len old, T.keep _ _ _ stG fun b hb o e => (pinned b hb o e).1, fun b hb => ?_, w'⟩
        obtain ⟨o, e, _⟩ := T.obj _ _ stG b hb
        exact (pinned b hb o e).2
      have len8 : (wipe σ (own.map (·.2))).length = σ8.length := by rw [← hw8, wipe_length]
      have old8 : ∀ (j : Nat) v, (wipe σ (own.map (·.2)))[j]? = some (some v) → (wipe σ8 vs1)[j]? = some (some v) := fun j v e => by
        rw [← hw8] at e
        rw [wipe_out fun z => (wipe_some e).2 (hv j z)]; exact (wipe_some e).1
      refine thnF (pj.run _ s8 σ8 H8 _ I8 q8) fun xv s9 hx => thnF hx fun jv s10 h10 => ?_
      obtain ⟨jt, fq, tq, K, H10, rfl, I10, U, st10, f10, V, ⟨m1, v1⟩, step1⟩ := h10
      have bare1 : ∀ {H' : Hp}, (∀ b ∈ fq, H' b = none) → ∀ b ∈ fq, FpOk (X.blk sc3 Hb sc ce fp) ([] ++ pinsAt fp sG.heap) H' b := fun hn b hb => ⟨hn b hb, (f10 b hb).2⟩
      have inner : codeAny (model X.prog X.w) X.A (.compLoop (SC elt t0 i0 t1 i1 sc pos) 1 (.ref jt) (.ref D) ce) (fun o s' => match o with
          | .ok _ => ∃ m, m < n ∧ ∃ i H', L2.Inv (X.blk sc3 Hb sc ce fp) [] (wipe σ (own.map (·.2))) H' s' ∧ tn i s'.heap ∧ (∀ b ∈ fp, H' b = none) ∧ W i m H'
          | .error _ => False) s10 := by
        refine loop1 (fun k s' => ∃ j H', L2.Inv (X.blk sc3 Hb sc ce fp) ([] ++ pinsAt fp sG.heap) (wipe σ8 vs1) H' s' ∧ tq j s'.heap ∧ (∀ b ∈ fq, H' b = none) ∧ V j k H') ?_ m1 ⟨0, H10, I10.weak (wipe_length _ _) (fun j v e => (wipe_some e).1), st10, fun b hb => (f10 b hb).1, v1⟩
        rintro k sL ⟨j, HL, IL, stL, nL, wL⟩
        rcases step1 j k HL wL with ⟨stop1, nx1⟩ | ⟨go1, M, hM, turn1⟩
        · refine thnF (U.done (X.blk sc3 Hb sc ce fp) rfl rfl rfl hc j _ sL (wipe σ8 vs1) HL (fun _ _ => False) IL (bare1 nL) stL stop1) fun o sM ⟨ho, IM⟩ => ?_
          subst ho
          exact through IM (len8.trans (wipe_length σ8 vs1).symm) old8 nx1
        · refine thnF (U.item (X.blk sc3 Hb sc ce fp) rfl rfl rfl hc j _ sL (wipe σ8 vs1) HL (fun _ _ => False) IL (bare1 nL) stL go1) fun o sM ⟨u1, ho, hM13⟩ => ?_
          subst ho
          refine thnF hM13 fun _ sP ⟨x1, HP, IP, rP, yP, stP, nP⟩ => ?_
          have P14 := IP.pinned (bare1 nP) (U.obj _ _ stP)
          refine thnF (ph.run _ sP (wipe σ8 vs1) HP x1 u1 _ P14 rP (turn1 x1 HP yP)) fun _ s15 ⟨σ15, H15, I15, hw15, q15⟩ => ?_
          refine thnF (pe.run _ s15 σ15 H15 _ I15 q15) fun z s17 ⟨yv, H17, I17, r17, cc, S0, k0, ey, hD17, room, nx⟩ => ?_
          subst ey
          refine adds (X := (X.blk sc3 Hb sc ce fp)) I17 hD17 room r17 fun s18 I18 => ?_
          obtain ⟨m', lt, w'⟩ := hM _ nx
          have pinned : ∀ b ∈ fq, ∀ o, sP.heap.get? b = some o → s18.heap.get? b = some o ∧ _ := fun b hb o e => by
            obtain ⟨p1, p2, _⟩ := I18.pin (b, o) (List.mem_append_right _ (List.mem_append_right _ (mem_pinsAt hb e)))
            exact ⟨p1, p2⟩
          refine ⟨m', lt, j + 1, _, I18.unpinned.weak (by rw [← hw15, wipe_length]) (fun j v e => by rw [← hw15] at e; exact (wipe_some e).1), U.keep _ _ _ stP fun b hb o e => (pinned b hb o e).1, fun b hb => ?_, w'⟩
          obtain ⟨o, e, _⟩ := U.obj _ _ stP b hb
          exact (pinned b hb o e).2
      exact start1 inner (U.self X.A 0 _ _ _ st10 inner)
  have all : codeAny (model X.prog X.w) X.A (.compStart (SC elt t0 i0 t1 i1 sc pos) 0 (.ref it) (.ref D) ce) (compPost (model X.prog X.w) X.A X.xe none (EP X pins σ Q) (.ref D) sc3.heap.objs.size) sd := PpSet.codeAny_compStart_set outer (T.self X.A 0 _ _ _ std outer)
  rw [hce, hsd] at all
  exact all
end
end MiC

/-! Mi0: a small language (data, expressions, statements) and its evaluator. Plain Lean. -/
namespace Mi

/-- data: None, bools, ints, texts (by their codes), tuples, lists and dicts that nobody changes any more, a changeable object of the store, a def, an error -/
inductive D where
  | non | bl (b : Bool) | int (i : Int) | str (x : List Nat) | tup (xs : List D) | lst (xs : List D) | dct (ks vs : List D) | dcn (ks vs : List D) | loc (n : Nat) | fn (f : Nat) | exc (c : Nat) | scr (xs : List D) | rowt (xs : List D)
  deriving Inhabited

inductive Cell where
  | lst (xs : List D) | dct (ks vs : List D) | dcn (ks vs : List D) | ins (c : Nat) (fs : List (Nat × D))
  deriving Inhabited

abbrev Store := List Cell

/-- a local name: nothing yet, a value, a list or dict that this name alone holds, one that a loop walks -/
inductive Sl where
  | emp | val (d : D) | own (d : D) | lck (d : D)
  deriving Inhabited
abbrev Env := List Sl

inductive R (α : Type) where
  | ok (a : α) (st : Store) | err (c : Nat) (st : Store) | bad
inductive RS where
  | next (env : Env) (st : Store) | ret (d : D) (st : Store) | err (c : Nat) (st : Store) | bad

inductive Op where
  | add | sub | mul | fdiv | mod | pow
  deriving DecidableEq
inductive Cm where
  | eq | ne | lt | le | gt | ge | is | isnt | inn | nin
  deriving DecidableEq
inductive Ty where
  | int | bool | tuple | str
  deriving DecidableEq
/-- built-in calls and methods that only read -/
inductive Bi where
  | len | all | any | sum | min | max | tuple | list | sorted | str | int | dict | index | count | get | join | split | setLen2 | sortedSet | listRange | tupleR
  deriving DecidableEq

inductive T where
  | name (i : Nat) | tup (ts : List T)

inductive E where
  | con (d : D)
  | glob (x : List Nat) (d : D)
  | var (i : Nat)
  | tup (es : List E)
  | list (es : List E)
  | dict0
  | dictN
  | bin (op : Op) (a b : E)
  | neg (a : E)
  | not (a : E)
  | cmp (op : Cm) (a b : E)
  | chain (o1 o2 : Cm) (a b c : E)
  | and (a b : E)
  | or (a b : E)
  | ite (t a b : E)
  | call (f : Nat) (es : List E)
  | calld (f : E) (es : List E)
  | make (c f : Nat) (es : List E)
  | meth (c f : Nat) (o : E) (es : List E)
  | fld (o : E) (f : Nat)
  | bi (b : Bi) (es : List E)
  | isa (a : E) (t : Ty)
  | isx (a : E) (c : Nat)
  | idx (a b : E)
  | slc (a : E) (lo hi : List E)
  | rev (a : E)
  | rng (es : List E)
  | zip (es : List E)
  | enm (es : List E)
  | lc (elt : E) (vs : List Nat) (t : T) (it : E) (ifs : List E)
  | pop (a : E)
  | newN
  | getd (d k x : E)
  | tupR (es : List E)
  | dictR (e : E)
  | spc (k c f : Nat) (o : E) (es : List E)
  | isc (a : E) (c : Nat)
  | mk (e : E)
  | cmpD (op : Cm) (a b : E)
  | lcL (elt : E) (vs : List Nat) (t : T) (it : E) (ifs : List E)
  | bad

inductive S where
  | asg (t : T) (e : E)
  | par (is : List (Nat × Bool)) (es : List E)
  | new (i : Nat) (e : E)
  | loc (i : Nat) (e : E)
  | frz (i : Nat)
  | ret (e : E)
  | ite (t : E) (a b : List S)
  | for_ (t : T) (it : E) (body : List S)
  | while_ (t : E) (body : List S)
  | expr (e : E)
  | append (i : Nat) (e : E)
  | extend (i : Nat) (e : E)
  | setix (i : Nat) (ix e : E)
  | setfld (i : Nat) (f : Nat) (e : E)
  | aug (i : Nat) (op : Op) (e : E)
  | appendAt (o e : E)
  | raise_ (c : Nat)
  | tryw (i : Nat) (body : List S)
  | pass
  | bad

structure Def where
  pars : Nat
  slots : Nat
  body : List S

abbrev Tab := Nat → Option Def

/-! ### equality, order -/
mutual
def D.eqv : D → D → Bool
  | .non, .non => true
  | .bl a, .bl b => a == b
  | .bl a, .int j => (if a then 1 else 0) == j
  | .int i, .bl b => i == (if b then 1 else 0)
  | .int i, .int j => i == j
  | .str x, .str y => x == y
  | .tup xs, .tup ys => D.eqvs xs ys
  | .lst xs, .lst ys => D.eqvs xs ys
  | .scr xs, .lst ys => D.eqvs xs ys
  | .lst xs, .scr ys => D.eqvs xs ys
  | .scr xs, .scr ys => D.eqvs xs ys
  | _, _ => false
def D.eqvs : List D → List D → Bool
  | [], [] => true
  | x :: xs, y :: ys => D.eqv x y && D.eqvs xs ys
  | _, _ => false
end
mutual
/-- plain data: no dict, no object -/
def D.plain : D → Bool
  | .non | .bl _ | .int _ => true
  | .str x => x.all fun c => Nat.blt c 1114112
  | .tup xs | .lst xs | .scr xs => D.plains xs
  | _ => false
def D.plains : List D → Bool
  | [] => true
  | x :: xs => D.plain x && D.plains xs
end
mutual
def D.depth : D → Nat
  | .tup xs | .lst xs | .scr xs => D.depths xs + 1
  | _ => 0
def D.depths : List D → Nat
  | [] => 0
  | x :: xs => max (D.depth x) (D.depths xs)
end
mutual
/-- it names no object of the store from n on -/
def D.under (n : Nat) : D → Bool
  | .loc m => Nat.blt m n
  | .tup xs | .lst xs | .scr xs | .rowt xs => D.unders n xs
  | .dct ks vs => D.unders n ks && D.unders n vs
  | .dcn ks vs => D.unders n ks && D.unders n vs
  | _ => true
def D.unders (n : Nat) : List D → Bool
  | [] => true
  | x :: xs => D.under n x && D.unders n xs
end
def Cell.under (n : Nat) : Cell → Bool
  | .lst xs => D.unders n xs
  | .dct ks vs => D.unders n ks && D.unders n vs
  | .dcn ks vs => D.unders n ks && D.unders n vs
  | .ins _ fs => fs.all fun p => D.under n p.2

/-- the list or dict that is meant -/
def res (st : Store) : D → D
  | .loc n => (match st[n]? with
    | some (.lst xs) => .lst xs
    | some (.dct ks vs) => .dct ks vs
    | some (.dcn ks vs) => .dcn ks vs
    | _ => .loc n)
  | .rowt xs => .tup xs
  | d => d

def unrow : D → D
  | .rowt xs => .tup xs
  | d => d
/-- as an index of n things -/
def ixN (n : Nat) (i : Int) : Option Nat :=
  if 0 ≤ i then (if i < n then some i.toNat else none) else if -(n : Int) ≤ i then some (i + n).toNat else none
def sIx (n d : Nat) : Option Int → Nat
  | none => d
  | some v => if v < 0 then (v + (n : Int)).toNat else min v.toNat n
def cut {α : Type} (xs : List α) (lo hi : Option Int) : List α := (xs.drop (sIx xs.length 0 lo)).take (sIx xs.length xs.length hi - sIx xs.length 0 lo)

def asInt : D → Option Int
  | .int i => some i
  | _ => none

def D.typ : D → Ty → Bool
  | .int _, .int => true
  | .bl _, .int => true
  | .bl _, .bool => true
  | .tup _, .tuple => true
  | .str _, .str => true
  | _, _ => false

/-! ### what is walked -/
def rngL (a : Int) (c : Int) : Nat → List D
  | 0 => []
  | n + 1 => .int a :: rngL (a + c) c n
def rngN (a b c : Int) : Nat := if 0 < c then (if a < b then ((b - a - 1) / c + 1).toNat else 0) else if c < 0 then (if b < a then ((a - b - 1) / (-c) + 1).toNat else 0) else 0
def enmL (i : Int) : List D → List D
  | [] => []
  | x :: xs => .tup [.int i, x] :: enmL (i + 1) xs
def zipL : List D → List D → List D
  | x :: xs, y :: ys => .tup [x, y] :: zipL xs ys
  | _, _ => []
def iterOf : D → Option (List D)
  | .lst xs => some xs
  | .tup xs => some xs
  | .dcn ks _ => some ks
  | .rowt xs => some xs
  | _ => none

/-! ### targets -/
mutual
def bind : T → D → Env → Option Env
  | .name i, d, env => if i < env.length then (match env[i]? with
    | some (.lck _) => none
    | _ => some (env.set i (.val d))) else none
  | .tup ts, d, env => (match d with
    | .tup xs => binds ts xs env
    | _ => none)
def binds : List T → List D → Env → Option Env
  | [], [], env => some env
  | t :: ts, d :: ds, env => (match bind t d env with
    | some env => binds ts ds env
    | none => none)
  | _, _, _ => none
end
def wipe (env : Env) : List Nat → Env
  | [] => env
  | v :: vs => (wipe env vs).set v .emp

/-! ### operations -/
abbrev line : Nat := 16777216
def fit (n : Nat) : Bool := Nat.ble n line
def inI (k : Nat) (i : Int) : Bool := Nat.blt i.natAbs (2 ^ k)

def bin : Op → D → D → Option D
  | .add, .int i, .int j => some (.int (i + j))
  | .add, .tup xs, .tup ys => if fit (xs.length + ys.length) then some (.tup (xs ++ ys)) else none
  | .add, .lst xs, .lst ys => if fit (xs.length + ys.length) then some (.lst (xs ++ ys)) else none
  | .add, .str xs, .str ys => if fit (xs.length + ys.length) then some (.str (xs ++ ys)) else none
  | .sub, .int i, .int j => some (.int (i - j))
  | .mul, .int i, .int j => if inI 64 i || inI 64 j then some (.int (i * j)) else none
  | .mul, .tup xs, .int j => if inI 62 j && fit (xs.length * j.toNat) then some (.tup (List.replicate j.toNat xs).flatten) else none
  | .mul, .lst xs, .int j => if inI 62 j && fit (xs.length * j.toNat) then some (.lst (List.replicate j.toNat xs).flatten) else none
  | .fdiv, .int i, .int j => if j != 0 && Nat.blt j.natAbs 1073741824 then some (.int (i.fdiv j)) else none
  | .mod, .int i, .int j => if j != 0 then some (.int (i.fmod j)) else none
  | .pow, .int i, .int j => if decide (0 ≤ j) && decide (j ≤ 1000000) && inI 64 i then some (.int (i ^ j.toNat)) else none
  | _, _, _ => none

def okData (d : D) : Bool := d.plain && Nat.ble d.depth 60
def has (x : D) : List D → Bool
  | [] => false
  | y :: ys => D.eqv y x || has x ys

mutual
/-- ints and tuples of such -/
def D.keyA : D → Bool
  | .int _ => true
  | .tup xs => D.keysA xs
  | _ => false
def D.keysA : List D → Bool
  | [] => true
  | x :: xs => D.keyA x && D.keysA xs
end
/-- a key of a dict with nested keys -/
def keyOk : D → Bool
  | .tup xs => D.keysA xs && Nat.ble (D.depths xs) 7
  | _ => false

def cmp : Cm → D → D → Option D
  | .eq, x, y => if okData x && okData y then some (.bl (D.eqv x y)) else none
  | .ne, x, y => if okData x && okData y then some (.bl (!D.eqv x y)) else none
  | .lt, .int i, .int j => some (.bl (decide (i < j)))
  | .le, .int i, .int j => some (.bl (decide (i ≤ j)))
  | .gt, .int i, .int j => some (.bl (decide (j < i)))
  | .ge, .int i, .int j => some (.bl (decide (j ≤ i)))
  | .is, .non, .non => some (.bl true)
  | .is, .bl _, .non => some (.bl false)
  | .is, .int _, .non => some (.bl false)
  | .is, .str _, .non => some (.bl false)
  | .is, .tup _, .non => some (.bl false)
  | .is, .lst _, .non => some (.bl false)
  | .is, .bl a, .bl b => some (.bl (a == b))
  | .isnt, .non, .non => some (.bl false)
  | .isnt, .bl _, .non => some (.bl true)
  | .isnt, .int _, .non => some (.bl true)
  | .isnt, .str _, .non => some (.bl true)
  | .isnt, .tup _, .non => some (.bl true)
  | .isnt, .lst _, .non => some (.bl true)
  | .isnt, .bl a, .bl b => some (.bl (a != b))
  | .inn, x, .lst ys => if okData x && okData (.lst ys) then some (.bl (has x ys)) else none
  | .nin, x, .lst ys => if okData x && okData (.lst ys) then some (.bl (!has x ys)) else none
  | .inn, .int i, .dct ks _ => some (.bl (has (.int i) ks))
  | .nin, .int i, .dct ks _ => some (.bl (!has (.int i) ks))
  | .inn, .tup xs, .dcn ks _ => if keyOk (.tup xs) then some (.bl (has (.tup xs) ks)) else none
  | .nin, .tup xs, .dcn ks _ => if keyOk (.tup xs) then some (.bl (!has (.tup xs) ks)) else none
  | .inn, .str [c], .str y => some (.bl (decide (c ∈ y)))
  | .nin, .str [c], .str y => some (.bl (!decide (c ∈ y)))
  | _, _, _ => none

def neg : D → Option D
  | .int i => some (.int (-i))
  | _ => none

/-- the truth of a bool alone -/
def asBl : D → Option Bool
  | .bl b => some b
  | _ => none
def asBls : List D → Option (List Bool)
  | [] => some []
  | .bl b :: r => (match asBls r with
    | some bs => some (b :: bs)
    | none => none)
  | _ => none
def asInts : List D → Option (List Int)
  | [] => some []
  | .int b :: r => (match asInts r with
    | some bs => some (b :: bs)
    | none => none)
  | _ => none
def maxL (i : Int) : List Int → Int
  | [] => i
  | j :: r => maxL (if j > i then j else i) r

/-- the value that a key has -/
def look (x : D) : List D → List D → Option D
  | k :: ks, v :: vs => if D.eqv k x then some v else look x ks vs
  | _, _ => none
def findIx (x : D) : List D → Option Nat
  | [] => none
  | y :: ys => if D.eqv y x then some 0 else (match findIx x ys with
    | some n => some (n + 1)
    | none => none)
/-- a key's value put -/
def putK (x v : D) : List D → List D → List D × List D
  | k :: ks, u :: us => if D.eqv k x then (k :: ks, v :: us) else let r := putK x v ks us; (k :: r.1, u :: r.2)
  | _, _ => ([x], [v])

/-- a dict of pairs -/
def dictOf : List D → List D × List D → Option (List D × List D)
  | [], acc => some acc
  | .tup [.int k, v] :: r, acc => dictOf r (putK (.int k) v acc.1 acc.2)
  | _, _ => none
def idx : D → D → Option D
  | .lst xs, .int i => (match ixN xs.length i with
    | some n => xs[n]?
    | none => none)
  | .tup xs, .int i => (match ixN xs.length i with
    | some n => xs[n]?
    | none => none)
  | .scr xs, .int i => (match ixN xs.length i with
    | some n => xs[n]?
    | none => none)
  | .dct ks vs, .int i => look (.int i) ks vs
  | .dcn ks vs, .tup xs => if keyOk (.tup xs) then look (.tup xs) ks vs else none
  | _, _ => none

def optI : List D → Option (Option Int)
  | [] => some none
  | [.int i] => some (some i)
  | _ => none
def slc : D → List D → List D → Option D
  | .lst xs, a, b => (match optI a, optI b with
    | some lo, some hi => some (.lst (cut xs lo hi))
    | _, _ => none)
  | .tup xs, a, b => (match optI a, optI b with
    | some lo, some hi => some (.tup (cut xs lo hi))
    | _, _ => none)
  | _, _, _ => none
def rev : D → Option D
  | .lst xs => some (.lst xs.reverse)
  | .tup xs => some (.tup xs.reverse)
  | _ => none

/-! ### order -/
mutual
def D.ltb : D → D → Bool
  | .int i, .int j => decide (i < j)
  | .tup xs, .tup ys => D.ltbs xs ys
  | .lst xs, .lst ys => D.ltbs xs ys
  | _, _ => false
def D.ltbs : List D → List D → Bool
  | [], _ :: _ => true
  | x :: xs, y :: ys => if D.eqv x y then D.ltbs xs ys else D.ltb x y
  | _, _ => false
end
def insD (x : D) : List D → List D
  | [] => [x]
  | y :: ys => if D.ltb y x then y :: insD x ys else x :: y :: ys
def sortD : List D → List D
  | [] => []
  | x :: xs => insD x (sortD xs)
mutual
/-- two data of one shape: they can be held one below the other -/
def D.alike : D → D → Bool
  | .int _, .int _ => true
  | .tup xs, .tup ys => D.alikes xs ys
  | .lst xs, .lst ys => D.alikes xs ys
  | _, _ => false
def D.alikes : List D → List D → Bool
  | x :: xs, y :: ys => D.alike x y && D.alikes xs ys
  | _, _ => true
end
def isTup : D → Bool
  | .tup _ => true
  | _ => false
def isTup1 : D → Bool
  | .tup (_ :: _) => true
  | _ => false
def isTup0 : D → Bool
  | .tup [] => true
  | _ => false
/-- how a list of tuples is sorted: all with items; or the first without any -/
def sortCl : List D → Bool
  | [] => true
  | x :: xs => if isTup x then (if isTup0 x then xs.all isTup else xs.all isTup1) else xs.all fun y => !isTup y
def sortable : List D → Bool
  | [] => true
  | x :: xs => xs.all (fun y => D.alike x y && D.alike y x) && D.alike x x && okData x && sortable xs
def dedup : List D → List D
  | [] => []
  | x :: xs => if has x xs then dedup xs else x :: dedup xs
def joinAll : List D → Option (List D)
  | [] => some []
  | x :: xs => (match iterOf x, joinAll xs with
    | some ys, some zs => some (ys ++ zs)
    | _, _ => none)

/-! ### texts -/
def digit (n : Nat) : Nat := n + 48
def digitsF : Nat → Nat → List Nat
  | 0, _ => []
  | f + 1, n => if n < 10 then [digit n] else digitsF f (n / 10) ++ [digit (n % 10)]
def strInt (i : Int) : List Nat := if i < 0 then 45 :: digitsF 30 i.natAbs else digitsF 30 i.natAbs
def joinS (sep : List Nat) : List (List Nat) → List Nat
  | [] => []
  | [x] => x
  | x :: y :: r => x ++ sep ++ joinS sep (y :: r)
def asStrs : List D → Option (List (List Nat))
  | [] => some []
  | .str b :: r => (match asStrs r with
    | some bs => some (b :: bs)
    | none => none)
  | _ => none
def splitC (c : Nat) : List Nat → List (List Nat)
  | [] => [[]]
  | x :: xs => if x = c then [] :: splitC c xs else (match splitC c xs with
    | w :: ws => (x :: w) :: ws
    | [] => [[x]])
def numOf : List Nat → Nat → Option Nat
  | [], acc => some acc
  | c :: r, acc => if 48 ≤ c ∧ c ≤ 57 then numOf r (acc * 10 + (c - 48)) else none

/-! ### how many different ints -/
def isInt : D → Bool
  | .int _ => true
  | _ => false
def intOf : D → Int
  | .int i => i
  | _ => 0
def isIntL : D → Bool
  | .lst zs => zs.all isInt
  | _ => false
def rowI : D → List Int
  | .lst zs => zs.map intOf
  | _ => []
def flatI (xs : List D) : List Int := xs.flatMap rowI
def sizeI (ns : List Int) : Nat := (ns.foldl (fun acc x => if x ∈ acc then acc else acc ++ [x]) []).length

def biF : Bi → List D → Option D
  | .len, [.lst xs] => some (.int xs.length)
  | .len, [.tup xs] => some (.int xs.length)
  | .len, [.scr xs] => some (.int xs.length)
  | .len, [.str xs] => if fit xs.length then some (.int xs.length) else none
  | .all, [.lst xs] => (asBls xs).map fun bs => .bl (bs.all id)
  | .any, [.lst xs] => (asBls xs).map fun bs => .bl (bs.any id)
  | .sum, [.lst xs] => (asInts xs).map fun bs => .int bs.sum
  | .sum, [.tup xs] => (asInts xs).map fun bs => .int bs.sum
  | .min, [.int i, .int j] => some (.int (if j < i then j else i))
  | .max, [.int i, .int j] => some (.int (if j > i then j else i))
  | .max, [.lst xs] => (match asInts xs with
    | some (i :: r) => some (.int (maxL i r))
    | _ => none)
  | .max, [.tup xs] => (match asInts xs with
    | some (i :: r) => some (.int (maxL i r))
    | _ => none)
  | .tuple, [.lst xs] => some (.tup xs)
  | .tuple, [.tup xs] => some (.tup xs)
  | .tupleR, [.lst xs] => some (.rowt xs)
  | .list, [.lst xs] => some (.lst xs)
  | .list, [.tup xs] => some (.lst xs)
  | .list, [.dcn ks _] => some (.lst ks)
  | .listRange, [.int n] => if inI 62 n && fit n.toNat then some (.lst (rngL 0 1 n.toNat)) else none
  | .sorted, [.lst xs] => if sortable xs && sortCl xs then some (.lst (sortD xs)) else none
  | .sortedSet, [.tup xs] => (match asInts xs with
    | some _ => if Nat.ble xs.length 50 then some (.lst (sortD (dedup xs))) else none
    | none => none)
  | .setLen2, [.lst xs] => if xs.all isIntL && Nat.ble (flatI xs).length 1000 then some (.int (sizeI (flatI xs))) else none
  | .str, [.int i] => if decide (0 ≤ i) && decide (i < 100) then some (.str (strInt i)) else none
  | .int, [.bl b] => some (.int (if b then 1 else 0))
  | .int, [.int b] => some (.int b)
  | .index, [.lst xs, y] => if okData y && okData (.lst xs) then (findIx y xs).map fun n => .int n else none
  | .index, [.tup xs, .int k] => (match asInts xs with
    | some _ => (findIx (.int k) xs).map fun n => .int n
    | none => none)
  | .count, [.lst xs, .bl b] => (asBls xs).map fun bs => .int (bs.count b)
  | .get, [.dct ks vs, x, d] => if okData x then some ((look x ks vs).getD d) else none
  | .join, [.str sep, .lst xs] => (match asStrs xs with
    | some ys => if fit ((ys.map List.length).sum + ys.length * sep.length) then some (.str (joinS sep ys)) else none
    | none => none)
  | .split, [.str x, .str [c]] => if fit (x.length + 2) then some (.lst ((splitC c x).map .str)) else none
  | .dict, [.dct ks vs] => some (.dct ks vs)
  | _, _ => none

def rngF : List D → Option D
  | [.int b] => if inI 62 b && fit b.toNat then some (.lst (rngL 0 1 b.toNat)) else none
  | [.int a, .int b] => if inI 62 a && inI 62 b && fit (b - a).toNat then some (.lst (rngL a 1 (b - a).toNat)) else none
  | [.int a, .int b, .int c] => if inI 62 a && inI 62 b && c == -1 && fit (a - b).toNat then some (.lst (rngL a (-1) (a - b).toNat)) else none
  | _ => none
def zipF : List D → Option D
  | [.tup xs, .tup ys] => if fit xs.length then some (.lst (zipL xs ys)) else none
  | [.lst xs, .lst ys] => if fit xs.length then some (.lst (zipL xs ys)) else none
  | [.lst xs, .tup ys] => if fit xs.length then some (.lst (zipL xs ys)) else none
  | _ => none
def enmF : List D → Option D
  | [.tup xs] => some (.lst (enmL 0 xs))
  | [.lst xs] => some (.lst (enmL 0 xs))
  | _ => none

def R.of (o : Option D) (st : Store) : R D := match o with
  | some d => .ok d st
  | none => .bad
def R.bind {α β : Type} (r : R α) (f : α → Store → R β) : R β := match r with
  | .ok a st => f a st
  | .err _ _ => .bad
  | .bad => .bad

/-- a comprehension's turns -/
def lcGo (turn : D → Store → R (Option D)) : List D → List D → Store → R D
  | [], acc, st => .ok (.lst acc) st
  | x :: xs, acc, st => (turn x st).bind fun o st => match o with
    | some d => lcGo turn xs (acc ++ [d]) st
    | none => lcGo turn xs acc st

/-- the same over a list of the store: k turns are left of L -/
def lcLoc (turn : D → Store → R (Option D)) (n L : Nat) : Nat → List D → Store → R D
  | 0, acc, st => (match st[n]? with
    | some (.lst ys) => if ys.length ≤ L then .ok (.lst acc) st else .bad
    | _ => .bad)
  | k + 1, acc, st => (match st[n]? with
    | some (.lst ys) => (match ys[L - (k + 1)]? with
      | some x => (turn x st).bind fun o st => (match o with
        | some d => lcLoc turn n L k (acc ++ [d]) st
        | none => lcLoc turn n L k acc st)
      | none => .bad)
    | _ => .bad)
/-- an instance of the class c -/
def isIns (st : Store) (d : D) (c : Nat) : Bool := match d with
  | .loc n => (match st[n]? with
    | some (.ins c' _) => Nat.beq c c'
    | _ => false)
  | _ => false
def isStr : D → Bool
  | .str _ => true
  | _ => false
/-- what an instance may be held against -/
def argOk (st : Store) (c : Nat) : Nat → List D → Bool
  | 2, [d] => isStr d || isIns st d c
  | 2, _ => false
  | _, _ => true
def deep (st : Store) : D → D
  | .lst xs => .lst (xs.map (res st))
  | d => d
/-- behind len(o), str(o), o == x -/
def spcB : Nat → R D → R D
  | 0, .ok (.int n) st => if decide (0 ≤ n) && inI 62 n then .ok (.int n) st else .bad
  | 1, .ok (.str x) st => .ok (.str x) st
  | 2, .ok (.bl b) st => .ok (.bl b) st
  | _, _ => .bad
/-- a field's value put -/
def putF (f : Nat) (d : D) : List (Nat × D) → List (Nat × D)
  | [] => [(f, d)]
  | p :: r => if Nat.beq p.1 f then (f, d) :: r else p :: putF f d r

/-- behind a call: what it alone made is forgotten where nothing else names it -/
def trunc (n : Nat) (d : D) (st : Store) : Store :=
  if Nat.beq st.length n then st else if D.under n d && (st.take n).all (Cell.under n) then st.take n else st
/-- a new object, behind its __init__ -/
def newO (c : Nat) (st : Store) : R D → R D
  | .ok .non st' => .ok (.loc st.length) st'
  | .err e st' => .err e (trunc st.length .non st')
  | _ => .bad
/-- how an expression is asked: as a value that is kept; as a thing that is read at once; as what a loop walks -/
inductive Md where
  | kept | read | iter | walk
  deriving DecidableEq

structure Fns where
  fn : Nat → List D → Store → R D
  nw : Nat → List D → Store → R D
  mt : Nat → D → List D → Store → R D

mutual
def ev (F : Fns) (md : Md) : E → Env → Store → R D
  | .con d, _, st => .ok d st
  | .glob _ d, _, st => .ok d st
  | .var i, env, st => (match env[i]? with
    | some (.val d) => .ok d st
    | some (.own d) => (match md with
      | .read => .ok d st
      | .iter => (match d with
        | .lst xs => .ok (.lst xs) st
        | _ => .bad)
      | _ => .bad)
    | some (.lck d) => (match md with
      | .read => .ok d st
      | _ => .bad)
    | _ => .bad)
  | .tup es, env, st => (evs F .kept es env st).bind fun ds st => if fit ds.length then .ok (.tup ds) st else .bad
  | .list es, env, st => (evs F .kept es env st).bind fun ds st => if fit ds.length then .ok (.lst ds) st else .bad
  | .dict0, _, st => .ok (.dct [] []) st
  | .dictN, _, st => .ok (.dcn [] []) st
  | .bin op a b, env, st => (ev F .read a env st).bind fun x st => (ev F .read b env st).bind fun y st => R.of (bin op (res st x) (res st y)) st
  | .neg a, env, st => (ev F .read a env st).bind fun x st => R.of (neg x) st
  | .not a, env, st => (ev F .read a env st).bind fun x st => (match x with
    | .bl b => .ok (.bl (!b)) st
    | _ => .bad)
  | .cmp op a b, env, st => (ev F .read a env st).bind fun x st => (ev F .read b env st).bind fun y st => R.of (cmp op (res st x) (res st y)) st
  | .chain o1 o2 a b c, env, st => (ev F .read a env st).bind fun x st => (ev F .read b env st).bind fun y st => (match cmp o1 x y with
    | some (.bl true) => (ev F .read c env st).bind fun z st => R.of (cmp o2 y z) st
    | some (.bl false) => .ok (.bl false) st
    | _ => .bad)
  | .and a b, env, st => (ev F .read a env st).bind fun x st => (match x with
    | .bl true => ev F .kept b env st
    | .bl false => .ok (.bl false) st
    | _ => .bad)
  | .or a b, env, st => (ev F .read a env st).bind fun x st => (match x with
    | .bl false => ev F .kept b env st
    | .bl true => .ok (.bl true) st
    | _ => .bad)
  | .ite t a b, env, st => (ev F .read t env st).bind fun x st => (match x with
    | .bl true => ev F .kept a env st
    | .bl false => ev F .kept b env st
    | _ => .bad)
  | .call f es, env, st => (evs F .kept es env st).bind fun ds st => F.fn f ds st
  | .calld e es, env, st => (ev F .kept e env st).bind fun f st => (evs F .kept es env st).bind fun ds st => (match f with
    | .fn f => F.fn f ds st
    | _ => .bad)
  | .make c f es, env, st => (evs F .kept es env st).bind fun ds st => newO c st (F.fn f (.loc st.length :: ds) (st ++ [.ins c []]))
  | .meth c f o es, env, st => (ev F .kept o env st).bind fun o st => if isIns st o c then (evs F .kept es env st).bind fun ds st => F.fn f (o :: ds) st else .bad
  | .fld o f, env, st => (ev F .kept o env st).bind fun o st => (match o with
    | .loc n => (match st[n]? with
      | some (.ins _ fs) => R.of (fs.lookup f) st
      | _ => .bad)
    | _ => .bad)
  | .bi b es, env, st => (evs F .read es env st).bind fun ds st => R.of (biF b (ds.map (res st))) st
  | .isa a t, env, st => (ev F .read a env st).bind fun x st => (match res st x with
    | .loc _ => .bad
    | .fn _ => .bad
    | .exc _ => .bad
    | .dcn _ _ => .bad
    | d => .ok (.bl (D.typ d t)) st)
  | .isx a c, env, st => (ev F .kept a env st).bind fun x st => (match x with
    | .exc k => .ok (.bl (k == c)) st
    | _ => .bad)
  | .idx a b, env, st => (ev F .read a env st).bind fun x st => (ev F .kept b env st).bind fun y st => R.of (idx (res st x) y) st
  | .slc a lo hi, env, st => (ev F .read a env st).bind fun x st => (evs F .kept lo env st).bind fun l st => (evs F .kept hi env st).bind fun h st => R.of (slc (res st x) l h) st
  | .rev a, env, st => (ev F .read a env st).bind fun x st => R.of (rev (res st x)) st
  | .rng es, env, st => (match md with
    | .kept => .bad
    | .read => .bad
    | _ => (evs F .kept es env st).bind fun ds st => R.of (rngF ds) st)
  | .zip es, env, st => (match md with
    | .kept => .bad
    | .read => .bad
    | _ => (evs F .kept es env st).bind fun ds st => R.of (zipF (ds.map unrow)) st)
  | .enm es, env, st => (match md with
    | .kept => .bad
    | .read => .bad
    | _ => (evs F .kept es env st).bind fun ds st => R.of (enmF ds) st)
  | .lc elt vs t it ifs, env, st => (ev F .iter it env st).bind fun x st => (match iterOf x with
    | some xs => lcGo (fun x st => match bind t x (wipe env vs) with
      | some env2 => (evs F .read ifs env2 st).bind fun bs st => (match bs with
        | [] => (ev F .kept elt env2 st).bind fun d st => .ok (some d) st
        | [.bl true] => (ev F .kept elt env2 st).bind fun d st => .ok (some d) st
        | [.bl false] => .ok none st
        | _ => .bad)
      | none => .bad) xs [] st
    | none => .bad)
  | .pop a, env, st => (ev F .kept a env st).bind fun x st => (match x with
    | .loc n => (match st[n]? with
      | some (.lst xs) => (match xs[xs.length - 1]? with
        | some d => .ok d (st.set n (.lst xs.dropLast))
        | none => .bad)
      | _ => .bad)
    | _ => .bad)
  | .newN, _, st => .ok (.loc st.length) (st ++ [.dcn [] []])
  | .getd d k x, env, st => (ev F .read d env st).bind fun d st => (match res st d with
    | .dcn _ _ => (ev F .kept k env st).bind fun k st => (ev F .kept x env st).bind fun x st => (match res st d with
      | .dcn ks vs => if keyOk k then .ok ((look k ks vs).getD x) st else .bad
      | _ => .bad)
    | _ => .bad)
  | .tupR es, env, st => (evs F .kept es env st).bind fun ds st => if fit ds.length then .ok (.rowt ds) st else .bad
  | .dictR e, env, st => (ev F .kept e env st).bind fun x st => (match x with
    | .rowt xs => if fit xs.length then R.of ((dictOf xs ([], [])).map fun p => .dct p.1 p.2) st else .bad
    | _ => .bad)
  | .spc k c f o es, env, st => (ev F .kept o env st).bind fun o st => (evs F .kept es env st).bind fun ds st => if isIns st o c && argOk st c k ds then spcB k (F.fn f (o :: ds) st) else .bad
  | .isc a c, env, st => (ev F .kept a env st).bind fun x st => (match x with
    | .str _ => .ok (.bl false) st
    | .loc n => if isIns st (.loc n) c then .ok (.bl true) st else .bad
    | _ => .bad)
  | .mk e, env, st => (ev F .kept e env st).bind fun d st => (match d with
    | .lst xs => .ok (.loc st.length) (st ++ [.lst xs])
    | _ => .bad)
  | .cmpD op a b, env, st => (ev F .read a env st).bind fun x st => (ev F .read b env st).bind fun y st => R.of (cmp op (deep st (res st x)) (deep st (res st y))) st
  | .lcL elt vs t it ifs, env, st => (ev F .kept it env st).bind fun x st => (match x with
    | .loc n => (match st[n]? with
      | some (.lst xs) => if !fit xs.length then .bad else lcLoc (fun x st => match bind t x (wipe env vs) with
        | some env2 => (evs F .read ifs env2 st).bind fun bs st => (match bs with
          | [] => (ev F .kept elt env2 st).bind fun d st => .ok (some d) st
          | [.bl true] => (ev F .kept elt env2 st).bind fun d st => .ok (some d) st
          | [.bl false] => .ok none st
          | _ => .bad)
        | none => .bad) n xs.length xs.length [] st
      | _ => .bad)
    | _ => .bad)
  | .bad, _, _ => .bad
def evs (F : Fns) (md : Md) : List E → Env → Store → R (List D)
  | [], _, st => .ok [] st
  | e :: es, env, st => (ev F md e env st).bind fun d st => (evs F md es env st).bind fun ds st => .ok (d :: ds) st
end

/-! ### statements -/
def forGo (turn : D → Env → Store → RS) : List D → Env → Store → RS
  | [], env, st => .next env st
  | x :: xs, env, st => (match turn x env st with
    | .next env st => forGo turn xs env st
    | r => r)
/-- a list of the store is walked: k turns are left of L -/
def forLoc (turn : D → Env → Store → RS) (n L : Nat) : Nat → Env → Store → RS
  | 0, env, st => (match st[n]? with
    | some (.lst ys) => if ys.length ≤ L then .next env st else .bad
    | _ => .bad)
  | k + 1, env, st => (match st[n]? with
    | some (.lst ys) => (match ys[L - (k + 1)]? with
      | some x => (match turn x env st with
        | .next env st => forLoc turn n L k env st
        | r => r)
      | none => .bad)
    | _ => .bad)
def whileGo (test : Env → Store → R D) (body : Env → Store → RS) : Nat → Env → Store → RS
  | 0, _, _ => .bad
  | n + 1, env, st => (match test env st with
    | .ok (.bl true) st => (match body env st with
      | .next env st => whileGo test body n env st
      | r => r)
    | .ok (.bl false) st => .next env st
    | .ok _ _ => .bad
    | .err _ _ => .bad
    | .bad => .bad)
abbrev whileFuel : Nat := 1000

def R.toS (r : R D) (f : D → Store → RS) : RS := match r with
  | .ok a st => f a st
  | .err _ _ => .bad
  | .bad => .bad
def R.toSs (r : R (List D)) (f : List D → Store → RS) : RS := match r with
  | .ok a st => f a st
  | .err _ _ => .bad
  | .bad => .bad
/-- where an error may leave -/
def R.toX (r : R D) (f : D → Store → RS) : RS := match r with
  | .ok a st => f a st
  | .err c st => .err c st
  | .bad => .bad

/-- may this name be given a new value? -/
def freeAt (env : Env) (i : Nat) : Bool := match env[i]? with
  | some (.lck _) => false
  | some _ => true
  | none => false

def seqOf : D → Option (List D)
  | .lst xs => some xs
  | .tup xs => some xs
  | _ => none
/-- a changeable list -/
def lstAt (env : Env) (i : Nat) (st : Store) : Bool := match env[i]? with
  | some (.own (.lst _)) => true
  | some (.val (.loc n)) => (match st[n]? with
    | some (.lst _) => true
    | _ => false)
  | _ => false

/-- data that may be held alone -/
def mutD : D → Bool
  | .lst _ => true
  | .dct _ _ => true
  | .dcn _ _ => true
  | _ => false
def setsE : List (Nat × Bool) → List D → Env → Option Env
  | [], [], env => some env
  | (i, o) :: is, d :: ds, env => if freeAt env i && (!o || mutD d) then setsE is ds (env.set i (if o then .own d else .val d)) else none
  | _, _, _ => none

mutual
def ex (F : Fns) : S → Env → Store → RS
  | .asg t e, env, st => (ev F .kept e env st).toX fun d st => (match bind t d env with
    | some env => .next env st
    | none => .bad)
  | .par is es, env, st => (evs F .kept es env st).toSs fun ds st => (match setsE is ds env with
    | some env => .next env st
    | none => .bad)
  | .new i e, env, st => (ev F .kept e env st).toS fun d st => if freeAt env i then (match d with
    | .lst xs => .next (env.set i (.own (.lst xs))) st
    | .dct ks vs => .next (env.set i (.own (.dct ks vs))) st
    | .dcn ks vs => .next (env.set i (.own (.dcn ks vs))) st
    | _ => .bad) else .bad
  | .loc i e, env, st => (ev F .kept e env st).toS fun d st => if freeAt env i then (match d with
    | .lst xs => .next (env.set i (.val (.loc st.length))) (st ++ [.lst xs])
    | .dct ks vs => .next (env.set i (.val (.loc st.length))) (st ++ [.dct ks vs])
    | .dcn ks vs => .next (env.set i (.val (.loc st.length))) (st ++ [.dcn ks vs])
    | _ => .bad) else .bad
  | .frz i, env, st => (match env[i]? with
    | some (.own d) => .next (env.set i (.val d)) st
    | _ => .next env st)
  | .ret e, env, st => (ev F .kept e env st).toX fun d st => .ret d st
  | .ite t a b, env, st => (ev F .read t env st).toS fun x st => (match x with
    | .bl true => exs F a env st
    | .bl false => exs F b env st
    | _ => .bad)
  | .for_ t it body, env, st => (ev F .walk it env st).toS fun x st => (match iterOf x with
    | some xs => forGo (fun x env st => match bind t x env with
      | some env => exs F body env st
      | none => .bad) xs env st
    | none => (match x with
      | .loc n => (match st[n]? with
        | some (.lst xs) => forLoc (fun x env st => match bind t x env with
          | some env => exs F body env st
          | none => .bad) n xs.length xs.length env st
        | _ => .bad)
      | _ => .bad))
  | .while_ t body, env, st => whileGo (fun env st => ev F .read t env st) (fun env st => exs F body env st) whileFuel env st
  | .expr e, env, st => (ev F .kept e env st).toX fun _ st => .next env st
  | .append i e, env, st => if lstAt env i st then (ev F .kept e env st).toS fun d st => (match env[i]? with
    | some (.own (.lst xs)) => if fit (xs.length + 1) then .next (env.set i (.own (.lst (xs ++ [d])))) st else .bad
    | some (.val (.loc n)) => (match st[n]? with
      | some (.lst xs) => if fit (xs.length + 1) then .next env (st.set n (.lst (xs ++ [d]))) else .bad
      | _ => .bad)
    | _ => .bad) else .bad
  | .extend i e, env, st => if lstAt env i st then (ev F .read e env st).toS fun d st => (match seqOf (res st d) with
    | some ys => (match env[i]? with
      | some (.own (.lst xs)) => if fit (xs.length + ys.length) then .next (env.set i (.own (.lst (xs ++ ys)))) st else .bad
      | some (.val (.loc n)) => (match st[n]? with
        | some (.lst xs) => if fit (xs.length + ys.length) then .next env (st.set n (.lst (xs ++ ys))) else .bad
        | _ => .bad)
      | _ => .bad)
    | none => .bad) else .bad
  | .setix i ix e, env, st => (ev F .kept e env st).toS fun d st => (ev F .kept ix env st).toS fun j st => (match env[i]? with
    | some (.own (.lst xs)) => (match j with
      | .int k => (match ixN xs.length k with
        | some n => .next (env.set i (.own (.lst (xs.set n d)))) st
        | none => .bad)
      | _ => .bad)
    | some (.own (.dct ks vs)) => (match j with
      | .int k => if fit (ks.length + 1) then .next (env.set i (.own (.dct (putK (.int k) d ks vs).1 (putK (.int k) d ks vs).2))) st else .bad
      | _ => .bad)
    | some (.own (.dcn ks vs)) => if keyOk j && fit (ks.length + 1) then .next (env.set i (.own (.dcn (putK j d ks vs).1 (putK j d ks vs).2))) st else .bad
    | some (.val (.loc n)) => (match st[n]? with
      | some (.dcn ks vs) => if keyOk j && fit (ks.length + 1) then .next env (st.set n (.dcn (putK j d ks vs).1 (putK j d ks vs).2)) else .bad
      | _ => .bad)
    | _ => .bad)
  | .setfld i f e, env, st => (ev F .kept e env st).toS fun d st => (match env[i]? with
    | some (.val (.loc n)) => (match st[n]? with
      | some (.ins c fs) => if Nat.blt f 4 && Nat.blt fs.length 900 then .next env (st.set n (.ins c (putF f d fs))) else .bad
      | _ => .bad)
    | _ => .bad)
  | .aug i op e, env, st => (ev F .kept e env st).toS fun d st => (match env[i]? with
    | some (.val (.int x)) => (match d with
      | .int y => (match bin op (.int x) (.int y) with
        | some z => .next (env.set i (.val z)) st
        | none => .bad)
      | _ => .bad)
    | _ => .bad)
  | .appendAt o e, env, st => (ev F .kept o env st).toS fun o st => (match o with
    | .loc n => (match st[n]? with
      | some (.lst _) => (ev F .kept e env st).toS fun d st => (match st[n]? with
        | some (.lst xs) => if fit (xs.length + 1) then .next env (st.set n (.lst (xs ++ [d]))) else .bad
        | _ => .bad)
      | _ => .bad)
    | _ => .bad)
  | .raise_ c, _, st => .err c st
  | .tryw _ body, env, st => (match exs F body env st with
    | .err c st' => if Nat.blt c 13 then .ret (.tup [.str [114, 101, 102, 117, 115, 101, 100], .int c]) st' else .bad
    | r => r)
  | .pass, env, st => .next env st
  | .bad, _, _ => .bad
def exs (F : Fns) : List S → Env → Store → RS
  | [], env, st => .next env st
  | s :: ss, env, st => (match ex F s env st with
    | .next env st => exs F ss env st
    | r => r)
end

/-! ### defs -/
def start (d : Def) (ds : List D) : Env := ds.map Sl.val ++ List.replicate (d.slots - ds.length) .emp
def callDef (F : Fns) (d : Def) (ds : List D) (st : Store) : R D :=
  if ds.length == d.pars then (match exs F d.body (start d ds) st with
    | .ret r st' => .ok r (trunc st.length r st')
    | .next _ st' => .ok .non (trunc st.length .non st')
    | .err c st' => .err c (trunc st.length .non st')
    | .bad => .bad) else .bad
/-- a class: its __init__; a method by the class's number and its own -/
structure Prog where
  fn : Tab
  init : Nat → Option Def := fun _ => none
  mt : Nat → Nat → Option Def := fun _ _ => none
def step (P : Prog) (F : Fns) : Fns where
  fn := fun f ds st => match P.fn f with
    | some d => callDef F d ds st
    | none => .bad
  nw := fun c ds st => match P.init c with
    | some d => (match callDef F d (.loc st.length :: ds) (st ++ [.ins c []]) with
      | .ok .non st' => .ok (.loc st.length) st'
      | .err e st' => .err e (trunc st.length .non st')
      | _ => .bad)
    | none => .bad
  mt := fun m o ds st => match o with
    | .loc k => (match st[k]? with
      | some (.ins c _) => (match P.mt c m with
        | some d => callDef F d (o :: ds) st
        | none => .bad)
      | _ => .bad)
    | _ => .bad
def run (P : Prog) : Nat → Fns
  | 0 => ⟨fun _ _ _ => .bad, fun _ _ _ => .bad, fun _ _ _ _ => .bad⟩
  | n + 1 => step P (run P n)

end Mi

set_option Elab.async false
set_option linter.all false
set_option maxRecDepth 100000
set_option maxHeartbeats 2000000
/-! MiN0: dicts whose keys are nested tuples of ints, over the layer. -/
namespace Mi
open PySem PySem.Spec PyProof.Rows L2

abbrev NE := NestedKey × Addr × V
def NRel (p : NE) (q : NestedKey × Addr × Value) : Prop := p.1 = q.1 ∧ p.2.1 = q.2.1 ∧ RelV p.2.2 q.2.2
/-- what is true of the dict's own object -/
def phiN (P : Program) (w : World) (a : Addr) (es : List NE) (h : Heap) : Prop :=
  (a == sysModules) = false ∧ es.length ≤ sizeLine ∧ ∃ xs : List (NestedKey × Addr × Value), Paired NRel es xs ∧ ∃ o ens ep, h.get? a = some o ∧ o.ExactDict ∧ o.data = .dict ens ep ∧ ens.toList = xs.map (entryOfKey (nestedKind P w)) ∧ (xs.map (·.1)).Nodup
def dN (P : Program) (w : World) (a : Addr) (es : List NE) : HO := .ext (phiN P w a es)
theorem dN_ok {P P' : Program} {w w' : World} {H : Hp} {h : Heap} {a : Addr} {es : List NE} (x : phiN P w a es h) : ObjOk P' w' H h a (dN P w a es) := by
  obtain ⟨y, z, xs, r, o, ens, ep, h1, h2, h3, h4, h5⟩ := id x
  refine ⟨x, ⟨o, h1⟩, fun h1 h2 q k => ?_⟩
  obtain ⟨y, z, xs, r, o, ens, ep, e, c⟩ := q
  exact ⟨y, z, xs, r, o, ens, ep, k o e, c⟩
theorem dN_rd {P P' : Program} {w w' : World} {H : Hp} {h : Heap} {a : Addr} {es : List NE} (ok : HOk P' w' H h) (e : Rd H a (dN P w a es)) : phiN P w a es h := by
  have := e.ok ok
  exact this.1

mutual
/-- the value v is the key k -/
inductive KeyV (K : PySem.W.Frag) (H : Hp) : NestedKey → V → Prop
  | int (i : Int) : KeyV K H (.num i) (.int i)
  | tup {a : Addr} {vs : List V} {ks : List NestedKey} : SqT K H a vs → KeyVs K H ks vs → KeyV K H (.tup ks) (.ref a)
inductive KeyVs (K : PySem.W.Frag) (H : Hp) : List NestedKey → List V → Prop
  | nil : KeyVs K H [] []
  | cons {k : NestedKey} {v : V} {ks : List NestedKey} {vs : List V} : KeyV K H k v → KeyVs K H ks vs → KeyVs K H (k :: ks) (v :: vs)
end
section
variable {X : Cx} {pins : List (Addr × Obj)} {σ : L2.St} {H : Hp} {s : Shared}
mutual
theorem KeyV.is (I : Inv X pins σ H s) : ∀ {k : NestedKey} {v : V} {u : Value}, KeyV X.K H k v → RelV v u → NestedIs s.heap k u
  | _, _, _, .int i, ⟨t, e⟩ => by subst e; exact .int i t
  | _, _, _, .tup hq hk, e => by
    cases e
    obtain ⟨its, r, ⟨o, ho, hc, n, hd⟩, hz⟩ := I.tuple hq
    exact .tup ho hc hd (by simpa using KeyVs.is I hk r)
theorem KeyVs.is (I : Inv X pins σ H s) : ∀ {ks : List NestedKey} {vs : List V} {us : List Value}, KeyVs X.K H ks vs → Vals vs us → NestedAll s.heap ks us
  | _, _, _, .nil, .nil => .nil
  | _, _, _, .cons h t, .cons r q => .cons (KeyV.is I h r) (KeyVs.is I t q)
end
end
/-- the keys of the entries stand -/
def KeysAt (K : PySem.W.Frag) (H : Hp) (es : List NE) : Prop := ∀ x ∈ es, KeyV K H x.1 (.ref x.2.1) ∧ x.1.depth ≤ 8
def valN (es : List NE) (k : NestedKey) : Option V := (es.find? fun x => decide (x.1 = k)).map (·.2.2)
def putN (es : List NE) (k : NestedKey) (b : Addr) (v : V) : List NE := if (es.any fun x => decide (x.1 = k)) = true then es.map (fun x => if x.1 = k then (x.1, x.2.1, v) else x) else es ++ [(k, b, v)]
theorem putN_length (es : List NE) (k : NestedKey) (b : Addr) (v : V) : (putN es k b v).length ≤ es.length + 1 := by
  unfold putN; split <;> simp
theorem nrel_val {k : NestedKey} : ∀ {es : List NE} {xs : List (NestedKey × Addr × Value)}, Paired NRel es xs → RelO (valN es k) ((atKey xs k).map (·.2))
  | _, _, .nil => by simp [valN, atKey, RelO]
  | x :: es, y :: xs, .cons r t => by
    have ih := nrel_val (k := k) t
    obtain ⟨r1, r2, r3⟩ := r
    by_cases q : x.1 = k
    · have q2 : y.1 = k := by rw [← r1]; exact q
      simp [valN, atKey, q, q2, RelO]
      exact r3
    · have q2 : ¬ y.1 = k := by rw [← r1]; exact q
      simpa [valN, atKey, q, q2] using ih
theorem relO_some {v : V} {o : Option Value} (h : RelO (some v) o) : ∃ u, o = some u ∧ RelV v u := by
  cases o with
  | none => exact h.elim
  | some u => exact ⟨u, rfl, h⟩
theorem relO_isSome {v : Option V} {o : Option Value} (h : RelO v o) : v.isSome = o.isSome := by
  cases v <;> cases o <;> first | rfl | exact h.elim
theorem nrel_any {k : NestedKey} : ∀ {es : List NE} {xs : List (NestedKey × Addr × Value)}, Paired NRel es xs → (es.any fun x => decide (x.1 = k)) = (atKey xs k).isSome
  | _, _, .nil => by simp [atKey]
  | x :: es, y :: xs, .cons r t => by
    have ih := nrel_any (k := k) t
    obtain ⟨r1, r2, r3⟩ := r
    by_cases q : x.1 = k
    · have q2 : y.1 = k := by rw [← r1]; exact q
      simp [atKey, q, q2]
    · have q2 : ¬ y.1 = k := by rw [← r1]; exact q
      simpa [atKey, q, q2] using ih
theorem nrel_repl {k : NestedKey} {v : V} {u : Value} (rv : RelV v u) : ∀ {es : List NE} {xs : List (NestedKey × Addr × Value)}, Paired NRel es xs → Paired NRel (es.map (fun x => if x.1 = k then (x.1, x.2.1, v) else x)) (xs.map (putAt k u))
  | _, _, .nil => .nil
  | x :: es, y :: xs, .cons r t => by
    refine .cons ?_ (nrel_repl rv t)
    obtain ⟨r1, r2, r3⟩ := r
    by_cases q : x.1 = k
    · have q2 : y.1 = k := by rw [← r1]; exact q
      simp only [putAt, q, q2, if_true]
      exact ⟨rfl, r2, rv⟩
    · have q2 : ¬ y.1 = k := by rw [← r1]; exact q
      simp only [putAt, q, q2, if_false]
      exact ⟨r1, r2, r3⟩
theorem nrel_put {k : NestedKey} {b : Addr} {v : V} {u : Value} (rv : RelV v u) {es : List NE} {xs : List (NestedKey × Addr × Value)} (r : Paired NRel es xs) : Paired NRel (putN es k b v) (storedH xs k b u) := by
  unfold putN storedH
  rw [nrel_any r]
  by_cases q : (atKey xs k).isSome = true
  · rw [if_pos q, if_pos q]; exact nrel_repl rv r
  · rw [if_neg q, if_neg q]; exact Paired.snoc r ⟨rfl, rfl, rv⟩

section
variable {X : Cx} {pins : List (Addr × Obj)} {σ : L2.St} {H : Hp} {s : Shared} {a b : Addr} {es : List NE} {k : NestedKey} {v : V} {u r : Value} {A : Around} {E : Value → Shared → Prop}
theorem roomN (hu : A.units + 65 < cLine) : (nestedKind X.prog X.w).room A.in1 := by
  show A.in1.units + 8 < cLine
  simp only [Around.in1_units]
  omega
theorem n_dict (I : Inv X pins σ H s) (e : Rd H a (dN X.prog X.w a es)) (hk : KeysAt X.K H es) : (a == sysModules) = false ∧ es.length ≤ sizeLine ∧ ∃ xs, Paired NRel es xs ∧ s.heap.DictOfH (nestedKind X.prog X.w) a xs := by
  obtain ⟨y, z, xs, r, o, ens, ep, h1, h2, h3, h4, h5⟩ := dN_rd I.hok e
  refine ⟨y, z, xs, r, o, ens, ep, h1, h2, h3, h4, ?_, h5⟩
  have all : ∀ {l : List NE} {m : List (NestedKey × Addr × Value)}, Paired NRel l m → KeysAt X.K H l → ∀ x ∈ m, (nestedKind X.prog X.w).is s.heap x.1 x.2.1 := by
    intro l m q
    induction q with
    | nil => intro _ x hx; exact nomatch hx
    | @cons p q ps qs hq t ih =>
      intro hk x hx
      rcases List.mem_cons.mp hx with e | hx
      · subst e
        obtain ⟨k1, k2⟩ := hk p List.mem_cons_self
        obtain ⟨e1, e2, _⟩ := hq
        rw [e1, e2] at k1
        rw [e1] at k2
        exact ⟨KeyV.is I k1 rfl, k2⟩
      · exact ih (fun y hy => hk y (List.mem_cons_of_mem _ hy)) x hx
  exact all r hk
theorem n_getItem {Q : Value → Shared → Prop} (hu : A.units + 65 < cLine) (I : Inv X pins σ H s) (e : Rd H a (dN X.prog X.w a es)) (hk : KeysAt X.K H es) (kb : KeyV X.K H k (.ref b)) (kd : k.depth ≤ 8) (hv : valN es k = some v) (h : ∀ w' s', Inv X pins σ H s' → RelV v w' → Q w' s') :
    wpAny (model X.prog X.w) A (getItem (.ref a) (.ref b)) Q E s := by
  obtain ⟨hd, hz, xs, rel, dd⟩ := n_dict I e hk
  have := nrel_val (k := k) rel
  rw [hv] at this
  obtain ⟨w', hw, rw'⟩ := relO_some this
  obtain ⟨p, hp, hp2⟩ := Option.map_eq_some_iff.mp hw
  refine wpAny_getItem_heap (roomN hu) ⟨KeyV.is I kb rfl, kd⟩ dd hp ?_
  rw [hp2]
  exact h w' _ (I.tok _) rw'
theorem n_in {Q : Value → Shared → Prop} (hu : A.units + 65 < cLine) (I : Inv X pins σ H s) (e : Rd H a (dN X.prog X.w a es)) (hk : KeysAt X.K H es) (kb : KeyV X.K H k (.ref b)) (kd : k.depth ≤ 8) (h : ∀ s', Inv X pins σ H s' → Q (.bool (es.any fun x => decide (x.1 = k))) s') :
    wpAny (model X.prog X.w) A (compareOp .In (.ref b) (.ref a)) Q E s := by
  obtain ⟨hd, hz, xs, rel, dd⟩ := n_dict I e hk
  refine wpAny_in_heap (roomN hu) ⟨KeyV.is I kb rfl, kd⟩ hd dd ?_
  rw [← nrel_any rel]
  exact h _ (I.tok _)
theorem n_notIn {Q : Value → Shared → Prop} (hu : A.units + 65 < cLine) (I : Inv X pins σ H s) (e : Rd H a (dN X.prog X.w a es)) (hk : KeysAt X.K H es) (kb : KeyV X.K H k (.ref b)) (kd : k.depth ≤ 8) (h : ∀ s', Inv X pins σ H s' → Q (.bool (!(es.any fun x => decide (x.1 = k)))) s') :
    wpAny (model X.prog X.w) A (compareOp .NotIn (.ref b) (.ref a)) Q E s := by
  obtain ⟨hd, hz, xs, rel, dd⟩ := n_dict I e hk
  refine wpAny_notIn_heap (roomN hu) ⟨KeyV.is I kb rfl, kd⟩ hd dd ?_
  rw [← nrel_any rel]
  exact h _ (I.tok _)
theorem n_get2 {z : V} {Q : Value → Shared → Prop} (hu : A.units + 65 < cLine) (I : Inv X pins σ H s) (e : Rd H a (dN X.prog X.w a es)) (hk : KeysAt X.K H es) (kb : KeyV X.K H k (.ref b)) (kd : k.depth ≤ 8) (rz : RelV z r) (h : ∀ w' s', Inv X pins σ H s' → RelV ((valN es k).getD z) w' → Q w' s') :
    wpAny (model X.prog X.w) A (call (.builtin "dict.get") [.ref a, .ref b, r]) Q E s := by
  obtain ⟨hd, hz, xs, rel, dd⟩ := n_dict I e hk
  refine call_meetsIn PySem.F.slot_dict_get dd.typeIs PySem.F.entry_dict_get (PySem.F.args_dict_get_3 _ _ _) (meetsH_dict_get_default (nestedKind X.prog X.w) a b hd r) ⟨roomN hu, k, xs, ⟨KeyV.is I kb rfl, kd⟩, dd, h _ _ (I.tok _) ?_⟩
  have := nrel_val (k := k) rel
  cases q : valN es k with
  | none =>
    rw [q] at this
    cases q2 : (atKey xs k).map (·.2) with
    | none => exact rz
    | some w' => rw [q2] at this; exact this.elim
  | some v0 =>
    rw [q] at this
    obtain ⟨w', hw, rw'⟩ := relO_some this
    rw [hw]
    exact rw'
theorem KeysAt.put (hk : KeysAt X.K H es) (kb : KeyV X.K H k (.ref b)) (kd : k.depth ≤ 8) : KeysAt X.K H (putN es k b v) := by
  intro x hx
  unfold putN at hx
  split at hx
  · obtain ⟨y, hy, rfl⟩ := List.mem_map.mp hx
    split
    · exact hk y hy
    · exact hk y hy
  · rcases List.mem_append.mp hx with hx | hx
    · exact hk x hx
    · rw [List.mem_singleton] at hx
      subst hx
      exact ⟨kb, kd⟩
theorem n_setItem {Q : Unit → Shared → Prop} (hu : A.units + 65 < cLine) (I : Inv X pins σ H s) (e : H a = some (dN X.prog X.w a es)) (hk : KeysAt X.K H es) (kb : KeyV X.K H k (.ref b)) (kd : k.depth ≤ 8) (hl : es.length < sizeLine) (rv : RelV v r)
    (h : ∀ s', Inv X pins σ (upd H a (dN X.prog X.w a (putN es k b v))) s' → Q () s') : wpAny (model X.prog X.w) A (setItem (.ref a) (.ref b) r) Q E s := by
  obtain ⟨hd, hz, xs, rel, dd⟩ := n_dict I (.inl e) hk
  have hz2 : xs.length ≤ sizeLine := by rw [← Paired.length rel]; exact hz
  refine wpAny_setItem_heap (hsz := hz2) (roomN hu) ⟨KeyV.is I kb rfl, kd⟩ dd fun h' dd' hs => h _ ?_
  obtain ⟨q, ens, ep, hq, h2, h3, h4, _, h5⟩ := dd'
  refine d_write I (by rw [e]; exact True.intro) hs ⟨q, hq⟩ (dN_ok ⟨hd, by have := putN_length es k b v; omega, _, nrel_put rv rel, q, ens, ep, hq, h2, h3, h4, h5⟩)
end

/-! ### rules -/
/-- a dict, a key -/
structure AtN (X : Cx) (H : Hp) (a b : Addr) (es : List NE) (k : NestedKey) : Prop where
  d : Rd H a (dN X.prog X.w a es)
  ks : KeysAt X.K H es
  key : KeyV X.K H k (.ref b)
  kd : k.depth ≤ 8
def rInN (X : Cx) : R2 := fun x y H Q => ∃ a b es k, x = .ref b ∧ y = .ref a ∧ AtN X H a b es k ∧ Q (.bl (es.any fun x => decide (x.1 = k))) H
def rNotInN (X : Cx) : R2 := fun x y H Q => ∃ a b es k, x = .ref b ∧ y = .ref a ∧ AtN X H a b es k ∧ Q (.bl (!(es.any fun x => decide (x.1 = k)))) H
section
variable {X : Cx}
theorem op_inN (hu : X.A.units + 65 < cLine) : OpR X (compareOp .In) (rInN X) := by
  intro pins s σ H x y v u Q I rx ry h
  obtain ⟨a, b, es, k, rfl, rfl, at_, q⟩ := h
  cases rx
  cases ry
  exact n_in hu I at_.d at_.ks at_.key at_.kd fun s' I' => ⟨.bl _, H, I', rfl, q⟩
theorem op_notInN (hu : X.A.units + 65 < cLine) : OpR X (compareOp .NotIn) (rNotInN X) := by
  intro pins s σ H x y v u Q I rx ry h
  obtain ⟨a, b, es, k, rfl, rfl, at_, q⟩ := h
  cases rx
  cases ry
  exact n_notIn hu I at_.d at_.ks at_.key at_.kd fun s' I' => ⟨.bl _, H, I', rfl, q⟩
/-- {} -/
theorem dN_empty {P : Program} {w : World} {P' : Program} {w' : World} {H : Hp} (h : Heap) (hb : sysModules < h.objs.size) : ObjOk P' w' H (h.push { cls := .type "dict", data := .dict #[] }) h.objs.size (dN P w h.objs.size []) :=
  dN_ok ⟨beq_eq_false_iff_ne.mpr (Ne.symm (Nat.ne_of_lt hb)), Nat.zero_le _, [], .nil, _, #[], 0, Heap.get?_push_size _ rfl, ⟨rfl, rfl, rfl⟩, rfl, rfl, List.nodup_nil⟩
def tDNewN (X : Cx) : TE := fun _ H Q => ∀ p, H p = none → Q (.ref p) (upd H p (dN X.prog X.w p []))
theorem pe_dnewN {pos : Pos} : PE X (.Dict [] [] pos) (tDNewN X) := ⟨fun pins s σ H Q I h =>
  wpAny_Dict_empty ⟨.ref s.heap.objs.size, _, I.laid (a := s.heap.objs.size) (o := dN X.prog X.w s.heap.objs.size []) (t' := s.toks) (fun _ _ q => Heap.get?_push_of_some _ q) (Nat.le_refl _) (dN_empty s.heap I.big), rfl, h _ (I.hok.fresh (Nat.le_refl _))⟩⟩
/-! ### items -/
theorem ix_dictOf {T id : String} {r : R2} (hl : typeLookup (.type T) "__getitem__" = pure (some (.builtin id)))
    (hr : ∀ (pins : List (Addr × Obj)) (s : Shared) (σ : L2.St) (H : Hp) (x y : V) (v u : Value) (Q : VK), Inv X pins σ H s → RelV x v → RelV y u → r x y H Q → s.TypeIs v T ∧ wpAny (model X.prog X.w) X.A (getItem v u) (EP X pins σ Q) X.xe s) : IxR X r := by
  intro value slice pins s σ H x y v u Q I rx ry h hs
  obtain ⟨hT, h2⟩ := hr pins s σ H x y v u Q I rx ry h
  unfold subscriptTail
  refine wpAny_bind ?_
  rw [getitemInPython_of_ne hT.not_modules]
  refine wpAny_bind (wpAny_specialOf hT hl ?_)
  have fin : wpAny (model X.prog X.w) X.A (subscripted slice false v u) (fun r s₃ => wpAny (model X.prog X.w) X.A (letTemporaryGo value v r >>= fun _ => pure r) (EP X pins σ Q) X.xe s₃) X.xe s := by
    rw [hs]
    exact wpAny_operating (wpAny_mono h2 (fun r s₃ h₃ => wpAny_bind (wpAny_letTemporaryGo (wpAny_pure h₃))) fun _ _ x => x)
  first
    | exact wpAny_pure (wpAny_bind fin)
    | exact wpAny_bind (wpAny_pure (wpAny_bind fin))
    | exact wpAny_bind fin
def rIxD : R2 := fun x y H Q => ∃ a v, x = .ref a ∧ DGet H a y (some v) ∧ Q v H
def rIxN (X : Cx) : R2 := fun x y H Q => ∃ a b es k v, x = .ref a ∧ y = .ref b ∧ AtN X H a b es k ∧ valN es k = some v ∧ Q v H
theorem ix_dictK (hu : X.A.units + 65 < cLine) : IxR X rIxD := ix_dictOf PySem.F.slot_dict_getitem.lookup fun pins s σ H x y v u Q I rx ry h => by
  obtain ⟨a, z, rfl, g, q⟩ := h
  cases rx
  exact ⟨dict_typeIs I g, d_getItem (by omega) I g ry fun w' s3 I3 rw' => ⟨z, H, I3, rw', q⟩⟩
theorem ix_dictN (hu : X.A.units + 65 < cLine) : IxR X (rIxN X) := ix_dictOf PySem.F.slot_dict_getitem.lookup fun pins s σ H x y v u Q I rx ry h => by
  obtain ⟨a, b, es, k, z, rfl, rfl, at_, hv, q⟩ := h
  cases rx
  cases ry
  obtain ⟨_, _, xs, _, dd⟩ := n_dict I at_.d at_.ks
  exact ⟨dd.typeIs, n_getItem hu I at_.d at_.ks at_.key at_.kd hv fun w' s3 I3 rw' => ⟨z, H, I3, rw', q⟩⟩
/-! ### stores -/
theorem set_dictK (hu : X.A.units + 65 < cLine) : PSet X (fun o i v H Q => ∃ a H', o = .ref a ∧ DPut H a i v H' ∧ Q H') := by
  intro pins s σ H o i v ov iv u Q I ro ri rv h
  obtain ⟨a, H', rfl, g, q⟩ := h
  cases ro
  exact d_setItem (by omega) I g ri rv fun s' I' => ⟨H', I', q⟩
theorem set_dictN (hu : X.A.units + 65 < cLine) : PSet X (fun o i v H Q => ∃ a b es k, o = .ref a ∧ i = .ref b ∧ H a = some (dN X.prog X.w a es) ∧ AtN X H a b es k ∧ es.length < sizeLine ∧ Q (upd H a (dN X.prog X.w a (putN es k b v)))) := by
  intro pins s σ H o i v ov iv u Q I ro ri rv h
  obtain ⟨a, b, es, k, rfl, rfl, e, at_, hl, q⟩ := h
  cases ro
  cases ri
  exact n_setItem hu I e at_.ks at_.key at_.kd hl rv fun s' I' => ⟨_, I', q⟩
/-! ### d.get(k, x) -/
def tNGet2 (X : Cx) (td ty tx : TE) : TE := fun σ H Q => td σ H fun x H1 => ∃ a es0, x = .ref a ∧ Rd H1 a (dN X.prog X.w a es0) ∧ ty σ H1 fun y H2 => tx σ H2 fun z H3 => ∃ b es k, y = .ref b ∧ AtN X H3 a b es k ∧ Q ((valN es k).getD z) H3
theorem pe_nget2 {o e f : Expr} {apos cpos : Pos} {td ty tx : TE} (hu : X.A.units + 65 < cLine) (ho : PE X o td) (he : PE X e ty) (hf : PE X f tx) (m : M2 X o "get" apos e f cpos) : PE X (.Call (.Attribute o "get" apos) [e, f] [] cpos) (tNGet2 X td ty tx) := by
  refine ⟨fun pins s σ H Q I h => ?_⟩
  refine wpAny_Call_method m.base m.few m.line PySem.F.plainAttrs_dict PySem.F.slot_dict_get PySem.F.type_dict_get (thn (ho.run pins s σ H _ I h) fun u s1 ⟨x, H1, I1, rx, a, es0, ex, d, q1⟩ => ?_)
  subst ex
  obtain rfl : u = Value.ref a := rx
  obtain ⟨_, _, xs, _, ob, ens, ep, g1, g2, _⟩ := dN_rd I1.hok d
  refine ⟨⟨ob, g1, g2.1⟩, fun b q => (by cases q; exact ⟨ob, g1, g2.2.1⟩), ?_⟩
  rw [m.trees]
  refine Calls.callWith_builtin rfl (Calls.evalArgs_plain (Calls.spliced_cons (thn (he.run pins s1 σ H1 _ I1 q1) fun iv s2 ⟨y, H2, I2, ry, q2⟩ =>
    Calls.spliced_cons (thn (hf.run pins s2 σ H2 _ I2 q2) fun fv s3 ⟨z, H3, I3, rz, b, es, k, ey, at_, q3⟩ => Calls.spliced_nil ?_))))
  subst ey
  cases ry
  exact n_get2 hu I3 at_.d at_.ks at_.key at_.kd rz fun w' s4 I4 rw' => ⟨_, H3, I4, rw', q3⟩
/-! ### the keys walked -/
theorem frzN {pins : List (Addr × Obj)} {σ : L2.St} {H : Hp} {s : Shared} {d : Addr} {o : Obj} {es : List NE} {P : Program} {w : World} (I : Inv X pins σ H s) (h : H d = some (.frz o (dN P w d es))) :
    (d == sysModules) = false ∧ s.heap.get? d = some o ∧ o.ExactDict ∧ ∃ (ens : Array DictEntry) (ep : Nat), o.data = .dict ens ep ∧ ens.size = es.length ∧ ∀ (i : Nat) (x : NE), es[i]? = some x → ∃ en : DictEntry, ens[i]? = some en ∧ en.key = .ref x.2.1 := by
  obtain ⟨hd, ⟨hs, hz, xs, pr, o', ens, ep, ho, hx, hdt, he, _⟩, _⟩ := I.hok d _ h
  rw [hd] at ho
  cases ho
  refine ⟨hs, hd, hx, ens, ep, hdt, ?_, fun i x e => ?_⟩
  · have l1 : ens.size = xs.length := size_of_entries he
    have l2 : es.length = xs.length := Paired.length pr
    omega
  · obtain ⟨b, hb, e1, e2, _⟩ := paired_get pr e
    have q := entry_at he i
    rw [hb] at q
    exact ⟨_, q, by rw [e2]; rfl⟩
def ItN (d : Addr) (o : Obj) (P : Program) (w : World) (es : List NE) : It :=
  ⟨fun i H => H d = some (.frz o (dN P w d es)) ∧ i < es.length, fun i H x H' => H' = H ∧ ∃ e, es[i]? = some e ∧ x = .ref e.2.1, fun i H => H d = some (.frz o (dN P w d es)) ∧ es.length ≤ i⟩
theorem turn_N {P : Program} {w : World} {K : PySem.W.Frag} {tg : Expr} {d : Addr} {o : Obj} {ens : Array DictEntry} {ep : Nat} {es : List NE} {P' : Program} {w' : World} (it : Addr) (hod : o.data = .dict ens ep) : Turn P w K tg (ItN d o P' w' es) [it] it (fun i h => h.IsKeyIter it d i es.length ep) where
  mem := by simp
  obj := fun i h st b hb => by
    have e : b = it := by simpa using hb
    subst e
    obtain ⟨oi, e, c, dd⟩ := st
    exact ⟨oi, e, fun v z => by rw [dd] at z; cases z⟩
  keep := fun i h h' st k => st.at fun oi e => k it (by simp) oi e
  item := by
    intro X hP hw hK hc i pins s σ H E I hf st hg
    subst hP hw hK
    obtain ⟨hd, hi⟩ := hg
    obtain ⟨f0, f1, f2, f3, f4, f5⟩ := hf it (by simp)
    obtain ⟨hs, hgd, hx, ens', ep', hdt, hsz, ent⟩ := frzN I hd
    obtain ⟨rfl, rfl⟩ := dict_ep hod hdt
    obtain ⟨x, hkv⟩ : ∃ p, es[i]? = some p := ⟨es[i], List.getElem?_eq_getElem hi⟩
    obtain ⟨en, hen, hkey⟩ := ent i x hkv
    refine next_key_item st hgd hdt hsz hen fun h' st' sb => ?_
    have I1 : Inv X pins σ H { s with heap := h' } := I.turned (t' := s.toks) (fun b ob hb e => (sb.2 b hb).trans e) f0 f1 f3 f4 f5
    obtain ⟨oi, e, c, dd⟩ := id st'
    exact ⟨en.key, rfl, go_of (s := { s with heap := h' }) e c dd (by decide) ⟨.ref x.2.1, H, I1, hkey, ⟨rfl, x, hkv, rfl⟩, st', fun b hb => (hf b hb).1⟩⟩
  done := by
    intro X hP hw hK hc i pins s σ H E I hf st hg
    subst hP hw hK
    obtain ⟨hd, hi⟩ := hg
    obtain ⟨f0, f1, f2, f3, f4, f5⟩ := hf it (by simp)
    obtain ⟨hs, hgd, hx, ens', ep', hdt, hsz, ent⟩ := frzN I hd
    obtain ⟨rfl, rfl⟩ := dict_ep hod hdt
    exact next_key_end (I.ok.hd hc) st hgd hdt hsz hi fun h' eb => ⟨rfl, I.turned (t' := s.toks) (fun b ob hb e => eb b ob hb e) f0 f1 f3 f4 f5⟩
  self := fun A i s Q E st h => by
    refine wpAny_pyIter_slot st.typeIs F.slot_dict_keyiterator_iter (wpAny_call_entry F.slot_dict_keyiterator_iter st.typeIs F.entry_dict_keyiterator_iter ?_ (F.args_dict_keyiterator_iter_1 _))
    show wpAny _ _ (ret (.ref it)) _ _ s
    exact wpAny_pure ⟨_, rfl, "dict_keyiterator", _, st.typeIs, F.slot_dict_keyiterator_next.lookup, h⟩
/-- list(d) -/
theorem call_list_N (hc : X.calm = true) : CallR X (.type "list") (fun xs H Q => ∃ d es, xs = [V.ref d] ∧ Rd H d (dN X.prog X.w d es) ∧ ∀ p, H p = none → Q (.ref p) (upd H p (.lst (es.map fun x => V.ref x.2.1)))) := by
  intro pins s σ H xs us Q I r h
  obtain ⟨d, es, rfl, hd, q⟩ := h
  obtain ⟨u, rfl, rx⟩ := r.one
  cases rx
  obtain ⟨hs, z, ks, pr, o, ens, ep, ho, hx, hdt, he, hn⟩ := dN_rd I.hok hd
  have l1 : ens.size = ks.length := size_of_entries he
  have l2 : es.length = ks.length := Paired.length pr
  refine PySem.W.kdl_call (kdl_raw hs hx hdt) (I.ok.hd hc) ho (by omega) fun h' tk acc' c' kp e it => ?_
  have ea : acc'.toList = ks.map fun x => Value.ref x.2.1 := by
    have hl : acc'.toList.length = ks.length := by rw [Array.length_toList, it.1]; exact l1
    apply List.ext_getElem?
    intro j
    rw [List.getElem?_map]
    cases hj : acc'.toList[j]? with
    | none =>
      have h1 := List.getElem?_eq_none_iff.mp hj
      rw [List.getElem?_eq_none (by omega)]
      all_goals rfl
    | some v =>
      obtain ⟨en, hen, hv⟩ := it.2 j v (by rw [← Array.getElem?_toList]; exact hj)
      have qe := entry_at he j
      rw [hen] at qe
      cases hb : ks[j]? with
      | none =>
        rw [hb] at qe
        exact nomatch (show some en = none from qe)
      | some b =>
        rw [hb] at qe
        have e2 : en = entryOfKey (nestedKind X.prog X.w) b := Option.some.inj qe
        rw [hv, e2]
        all_goals rfl
  have ek : ∀ {l : List NE} {m : List (NestedKey × Addr × Value)}, Paired NRel l m → m.map (fun x => x.2.1) = l.map (fun x => x.2.1) := by
    intro l m q
    induction q with
    | nil => rfl
    | @cons p q ps qs hq t ih => rw [List.map_cons, List.map_cons, ih, hq.2.1]
  have eb : acc'.toList = (es.map fun x => x.2.1).map Value.ref := by rw [ea, ← ek pr, List.map_map]; all_goals rfl
  have rv : Vals (es.map fun x => V.ref x.2.1) acc'.toList := by
    rw [eb]
    have := vals_refs (es.map fun x => x.2.1)
    rw [List.map_map] at this
    exact this
  refine ⟨.ref s.heap.objs.size, _, I.laid (t' := tk) (o := .lst (es.map fun x => V.ref x.2.1)) kp (Nat.le_refl _) ?_, rfl, q _ (I.hok.fresh (Nat.le_refl _))⟩
  exact ⟨by rw [List.length_map]; omega, acc'.toList, c', rv, by rw [Array.toArray_toList]; exact e⟩
end
end Mi

set_option Elab.async false
set_option linter.all false
set_option maxRecDepth 100000
set_option maxHeartbeats 1000000
/-! Mi1: what stands for the small language's data in the model's heap; the judgements. -/
namespace Mi
open PySem PySem.Spec PyProof.Rows L2

/-- what does not change through a law: the written part, where defs and classes stand -/
structure Ct where
  P : Program
  W : World
  K : PySem.W.Frag
  fa : Nat → Addr
  ca : Nat → Addr
  xa : Nat → Addr
  fname : Nat → Str

/-- S: what nobody changes any more; H: all that is tracked; φ: where the store's objects stand -/
structure Wd where
  S : Hp
  H : Hp
  φ : List Addr

def keyD : Key → D
  | .inl i => .int i
  | .inr x => .str x.cps.toList
/-- the dict at a: its keys, its values -/
def DK (H : Hp) (a : Addr) (ks : List D) (us : List V) : Prop := ∃ kvs : List (Key × V), H a = some (.dK kvs) ∧ ks = kvs.map (fun p => keyD p.1) ∧ us = kvs.map (·.2) ∧ (kvs.map (·.1)).Nodup

mutual
/-- data as a key -/
def toNK : D → NestedKey
  | .int i => .num i
  | .tup xs => .tup (toNKs xs)
  | _ => .none
def toNKs : List D → List NestedKey
  | [] => []
  | x :: xs => toNK x :: toNKs xs
end
/-- the entries' keys are the data ks -/
structure NQ (es : List NE) (ks : List D) : Prop where
  ok : ∀ k ∈ ks, keyOk k = true
  eq : es.map (·.1) = ks.map toNK
  nd : (ks.map toNK).Nodup
theorem NQ.nil : NQ [] [] := ⟨(fun _ h => nomatch h), rfl, List.nodup_nil⟩
def adrs (es : List NE) : List V := es.map fun x => V.ref x.2.1
def vls (es : List NE) : List V := es.map fun x => x.2.2
mutual
inductive RV (C : Ct) (w : Wd) : V → D → Prop
  | non : RV C w .non .non
  | bl (b : Bool) : RV C w (.bl b) (.bl b)
  | int (i : Int) : RV C w (.int i) (.int i)
  | str (x : Str) : RV C w (.str x) (.str x.cps.toList)
  | tup {a : Addr} {vs : List V} {ds : List D} : SqT C.K w.S a vs → RVs C w vs ds → RV C w (.ref a) (.tup ds)
  | lst {a : Addr} {vs : List V} {ds : List D} : w.S a = some (.lst vs) → RVs C w vs ds → RV C w (.ref a) (.lst ds)
  | scr {a : Addr} {vs : List V} {ds : List D} : SqL C.K w.S a vs → RVs C w vs ds → RV C w (.ref a) (.scr ds)
  | rowt {a : Addr} {o : Obj} {vs : List V} {ds : List D} : w.S a = some (.frz o (.tup vs)) → o.dict = none → RVs C w vs ds → RV C w (.ref a) (.rowt ds)
  | dct {a : Addr} {ks : List D} {us : List V} {ds : List D} : DK w.S a ks us → RVs C w us ds → RV C w (.ref a) (.dct ks ds)
  | dcn {a : Addr} {o : Obj} {es : List NE} {ks ds : List D} : w.S a = some (.frz o (dN C.P C.W a es)) → RVs C w (adrs es) ks → NQ es ks → RVs C w (vls es) ds → RV C w (.ref a) (.dcn ks ds)
  | loc {a : Addr} {n : Nat} : w.φ[n]? = some a → RV C w (.ref a) (.loc n)
  | fn (f : Nat) : RV C w (.ref (C.fa f)) (.fn f)
inductive RVs (C : Ct) (w : Wd) : List V → List D → Prop
  | nil : RVs C w [] []
  | cons {v : V} {vs : List V} {d : D} {ds : List D} : RV C w v d → RVs C w vs ds → RVs C w (v :: vs) (d :: ds)
end

structure Wok (w : Wd) : Prop where
  sub : ∀ a o, w.S a = some o → w.H a = some o
  nd : w.φ.Nodup
  out : ∀ a ∈ w.φ, w.S a = none
  there : ∀ a ∈ w.φ, w.H a ≠ none

structure Ext (w w' : Wd) : Prop where
  ok : Wok w'
  sub : ∀ a o, w.S a = some o → w'.S a = some o
  fresh : ∀ a o, w'.S a = some o → w.S a = some o ∨ w.H a = none
  frame : ∀ a o, w.H a = some o → a ∉ w.φ → w'.H a = some o
  pre : w.φ <+: w'.φ
  new : ∀ a ∈ w'.φ, a ∈ w.φ ∨ w.H a = none

theorem Ext.refl {w : Wd} (h : Wok w) : Ext w w := ⟨h, fun _ _ e => e, fun _ _ e => .inl e, fun _ _ e _ => e, List.prefix_refl _, fun _ h => .inl h⟩
theorem Ext.trans {a b c : Wd} (x : Ext a b) (y : Ext b c) : Ext a c := by
  refine ⟨y.ok, fun p o e => y.sub p o (x.sub p o e), fun p o e => ?_, fun p o e n => y.frame p o (x.frame p o e n) (fun h => ?_), x.pre.trans y.pre, fun p h => ?_⟩
  · rcases y.fresh p o e with z | z
    · exact x.fresh p o z
    · cases q : a.H p with
      | none => exact .inr rfl
      | some o' =>
        by_cases hp : p ∈ a.φ
        · exact absurd z (x.ok.there p (x.pre.subset hp))
        · rw [x.frame p o' q hp] at z; cases z
  · rcases x.new p h with z | z
    · exact n z
    · rw [z] at e; cases e
  · rcases y.new p h with z | z
    · exact x.new p z
    · cases q : a.H p with
      | none => exact .inr rfl
      | some o' =>
        by_cases hp : p ∈ a.φ
        · exact .inl hp
        · rw [x.frame p o' q hp] at z; cases z

theorem Rd.mono {H H' : Hp} (h : ∀ a o, H a = some o → H' a = some o) {a : Addr} {u : HO} (r : Rd H a u) : Rd H' a u := by
  rcases r with r | ⟨o, r⟩
  · exact .inl (h _ _ r)
  · exact .inr ⟨o, h _ _ r⟩
theorem SqL.mono' {K : PySem.W.Frag} {H H' : Hp} (h : ∀ a o, H a = some o → H' a = some o) {a : Addr} {xs : List V} (r : SqL K H a xs) : SqL K H' a xs := by
  rcases r with r | r
  · exact .inl (Rd.mono h r)
  · exact .inr r
theorem SqT.mono' {K : PySem.W.Frag} {H H' : Hp} (h : ∀ a o, H a = some o → H' a = some o) {a : Addr} {xs : List V} (r : SqT K H a xs) : SqT K H' a xs := by
  rcases r with r | r
  · exact .inl (Rd.mono h r)
  · exact .inr r
theorem DK.mono {H H' : Hp} (h : ∀ a o, H a = some o → H' a = some o) {a : Addr} {ks : List D} {us : List V} (r : DK H a ks us) : DK H' a ks us := by
  obtain ⟨kvs, e, r⟩ := r
  exact ⟨kvs, h _ _ e, r⟩

mutual
theorem RV.mono {C : Ct} {w w' : Wd} (hs : ∀ a o, w.S a = some o → w'.S a = some o) (hp : ∀ (n : Nat) (a : Addr), w.φ[n]? = some a → w'.φ[n]? = some a) {v : V} {d : D} : RV C w v d → RV C w' v d
  | .non => .non
  | .bl b => .bl b
  | .int i => .int i
  | .str x => .str x
  | .tup h r => .tup (SqT.mono' hs h) (RVs.mono hs hp r)
  | .lst h r => .lst (hs _ _ h) (RVs.mono hs hp r)
  | .scr h r => .scr (SqL.mono' hs h) (RVs.mono hs hp r)
  | .dct h r => .dct (DK.mono hs h) (RVs.mono hs hp r)
  | .dcn h k q r => .dcn (hs _ _ h) (RVs.mono hs hp k) q (RVs.mono hs hp r)
  | .rowt h q r => .rowt (hs _ _ h) q (RVs.mono hs hp r)
  | .loc h => .loc (hp _ _ h)
  | .fn f => .fn f
theorem RVs.mono {C : Ct} {w w' : Wd} (hs : ∀ a o, w.S a = some o → w'.S a = some o) (hp : ∀ (n : Nat) (a : Addr), w.φ[n]? = some a → w'.φ[n]? = some a) {vs : List V} {ds : List D} : RVs C w vs ds → RVs C w' vs ds
  | .nil => .nil
  | .cons h r => .cons (RV.mono hs hp h) (RVs.mono hs hp r)
end
theorem Ext.phi {w w' : Wd} (x : Ext w w') (n : Nat) (a : Addr) (h : w.φ[n]? = some a) : w'.φ[n]? = some a := by
  obtain ⟨t, e⟩ := x.pre
  rw [← e, List.getElem?_append_left (List.getElem?_eq_some_iff.mp h).1]
  exact h
theorem RV.ext {C : Ct} {w w' : Wd} {v : V} {d : D} (r : RV C w v d) (x : Ext w w') : RV C w' v d := r.mono x.sub x.phi
theorem RVs.ext {C : Ct} {w w' : Wd} {v : List V} {d : List D} (r : RVs C w v d) (x : Ext w w') : RVs C w' v d := r.mono x.sub x.phi

theorem RVs.length {C : Ct} {w : Wd} : ∀ {vs : List V} {ds : List D}, RVs C w vs ds → vs.length = ds.length
  | _, _, .nil => rfl
  | _, _, .cons _ r => by simp [RVs.length r]
theorem RVs.append {C : Ct} {w : Wd} : ∀ {vs us : List V} {ds es : List D}, RVs C w vs ds → RVs C w us es → RVs C w (vs ++ us) (ds ++ es)
  | _, _, _, _, .nil, h => h
  | _, _, _, _, .cons h r, q => .cons h (RVs.append r q)
theorem RVs.get {C : Ct} {w : Wd} : ∀ {vs : List V} {ds : List D} {i : Nat} {d : D}, RVs C w vs ds → ds[i]? = some d → ∃ v, vs[i]? = some v ∧ RV C w v d
  | _, _, _, _, .nil, e => by simp at e
  | _, _, 0, _, .cons h _, e => by simp at e; subst e; exact ⟨_, rfl, h⟩
  | _, _, i + 1, d, .cons _ r, e => by
    obtain ⟨v, h1, h2⟩ := RVs.get (i := i) (d := d) r (by simpa using e)
    exact ⟨v, by simpa using h1, h2⟩
theorem RVs.getV {C : Ct} {w : Wd} : ∀ {vs : List V} {ds : List D} {i : Nat} {v : V}, RVs C w vs ds → vs[i]? = some v → ∃ d, ds[i]? = some d ∧ RV C w v d
  | _, _, _, _, .nil, e => by simp at e
  | _, _, 0, _, .cons h _, e => by simp at e; subst e; exact ⟨_, rfl, h⟩
  | _, _, i + 1, d, .cons _ r, e => by
    obtain ⟨v, h1, h2⟩ := RVs.getV (i := i) (v := d) r (by simpa using e)
    exact ⟨v, by simpa using h1, h2⟩
theorem RVs.set {C : Ct} {w : Wd} {v : V} {d : D} (h : RV C w v d) : ∀ {vs : List V} {ds : List D} (i : Nat), RVs C w vs ds → RVs C w (vs.set i v) (ds.set i d)
  | _, _, _, .nil => .nil
  | _, _, 0, .cons _ t => .cons h t
  | _, _, i + 1, .cons q t => .cons q (RVs.set h i t)
theorem RVs.take {C : Ct} {w : Wd} : ∀ {vs : List V} {ds : List D} (n : Nat), RVs C w vs ds → RVs C w (vs.take n) (ds.take n)
  | _, _, 0, _ => .nil
  | _, _, _ + 1, .nil => .nil
  | _, _, n + 1, .cons r t => .cons r (RVs.take n t)
theorem RVs.drop {C : Ct} {w : Wd} : ∀ {vs : List V} {ds : List D} (n : Nat), RVs C w vs ds → RVs C w (vs.drop n) (ds.drop n)
  | _, _, 0, r => r
  | _, _, _ + 1, .nil => .nil
  | _, _, n + 1, .cons _ t => RVs.drop n t
theorem RVs.reverse {C : Ct} {w : Wd} {vs : List V} {ds : List D} (h : RVs C w vs ds) : RVs C w vs.reverse ds.reverse := by
  induction vs generalizing ds with
  | nil => cases h; exact .nil
  | cons v vs ih =>
    cases h with
    | cons h r => rw [List.reverse_cons, List.reverse_cons]; exact (ih r).append (.cons h .nil)
theorem RVs.rep {C : Ct} {w : Wd} {vs : List V} {ds : List D} (h : RVs C w vs ds) : ∀ n, RVs C w (List.replicate n vs).flatten (List.replicate n ds).flatten
  | 0 => .nil
  | n + 1 => by rw [List.replicate_succ, List.replicate_succ, List.flatten_cons, List.flatten_cons]; exact h.append (RVs.rep h n)

/-- what one name alone holds -/
inductive HR (C : Ct) (w : Wd) (a : Addr) : D → Prop
  | lst {vs : List V} {ds : List D} : w.H a = some (.lst vs) → RVs C w vs ds → HR C w a (.lst ds)
  | dct {ks : List D} {us : List V} {ds : List D} : DK w.H a ks us → RVs C w us ds → HR C w a (.dct ks ds)
  | dcn {es : List NE} {ks ds : List D} : w.H a = some (dN C.P C.W a es) → RVs C w (adrs es) ks → NQ es ks → RVs C w (vls es) ds → HR C w a (.dcn ks ds)
structure OwR (C : Ct) (w : Wd) (a : Addr) (d : D) : Prop where
  s : w.S a = none
  f : a ∉ w.φ
  h : HR C w a d
theorem HR.thr {C : Ct} {w : Wd} {a : Addr} {d : D} (h : HR C w a d) : ∃ o, w.H a = some o := by
  cases h with
  | lst h _ => exact ⟨_, h⟩
  | dct h _ => obtain ⟨_, e, _⟩ := h; exact ⟨_, e⟩
  | dcn h _ _ _ => exact ⟨_, h⟩
theorem HR.mono {C : Ct} {w w' : Wd} {a : Addr} {d : D} (h : HR C w a d) (hs : ∀ a o, w.S a = some o → w'.S a = some o) (hp : ∀ (n : Nat) (a : Addr), w.φ[n]? = some a → w'.φ[n]? = some a) (ha : w'.H a = w.H a) : HR C w' a d := by
  cases h with
  | lst h r => exact .lst (ha.trans h) (r.mono hs hp)
  | dct h r => obtain ⟨kvs, e, q⟩ := h; exact .dct ⟨kvs, ha.trans e, q⟩ (r.mono hs hp)
  | dcn h k q r => exact .dcn (ha.trans h) (k.mono hs hp) q (r.mono hs hp)
theorem OwR.keep {C : Ct} {w w' : Wd} {a : Addr} {d : D} (h : OwR C w a d) (x : Ext w w') : w'.H a = w.H a := by
  obtain ⟨o, e⟩ := h.h.thr
  rw [e]; exact x.frame a o e h.f
theorem OwR.ext {C : Ct} {w w' : Wd} {a : Addr} {d : D} (h : OwR C w a d) (x : Ext w w') : OwR C w' a d := by
  obtain ⟨o, e⟩ := h.h.thr
  refine ⟨?_, fun z => ?_, h.h.mono x.sub x.phi (h.keep x)⟩
  · cases q : w'.S a with
    | none => rfl
    | some u =>
      rcases x.fresh a u q with z | z
      · rw [h.s] at z; cases z
      · rw [e] at z; cases z
  · rcases x.new a z with z | z
    · exact h.f z
    · rw [e] at z; cases z

/-- what may be read at once -/
def RT (C : Ct) (w : Wd) (v : V) (d : D) : Prop := RV C w v d ∨ ∃ a, v = .ref a ∧ OwR C w a d
theorem RT.ext {C : Ct} {w w' : Wd} {v : V} {d : D} (r : RT C w v d) (x : Ext w w') : RT C w' v d := by
  rcases r with r | ⟨a, e, r⟩
  · exact .inl (r.ext x)
  · exact .inr ⟨a, e, r.ext x⟩
def RI (C : Ct) (w : Wd) (v : V) (d : D) : Prop := RV C w v d ∨ ∃ a, v = .ref a ∧ OwR C w a d ∧ ∃ xs, d = .lst xs
theorem RI.ext {C : Ct} {w w' : Wd} {v : V} {d : D} (r : RI C w v d) (x : Ext w w') : RI C w' v d := by
  rcases r with r | ⟨a, e, r, l⟩
  · exact .inl (r.ext x)
  · exact .inr ⟨a, e, r.ext x, l⟩
theorem RI.rt {C : Ct} {w : Wd} {v : V} {d : D} (r : RI C w v d) : RT C w v d := by
  rcases r with r | ⟨a, e, r, l⟩
  · exact .inl r
  · exact .inr ⟨a, e, r⟩
def RM (md : Md) (C : Ct) (w : Wd) (v : V) (d : D) : Prop := match md with
  | .kept => RV C w v d
  | .walk => RV C w v d
  | .read => RT C w v d
  | .iter => RI C w v d
theorem RV.rm {C : Ct} {w : Wd} {v : V} {d : D} (md : Md) (h : RV C w v d) : RM md C w v d := by
  cases md with
  | kept => exact h
  | walk => exact h
  | read => exact .inl h
  | iter => exact .inl h

/-- a cell of the store -/
inductive CR (C : Ct) (w : Wd) (a : Addr) : Cell → Prop
  | lst {vs : List V} {ds : List D} : w.H a = some (.lst vs) → RVs C w vs ds → CR C w a (.lst ds)
  | dct {ks : List D} {us : List V} {ds : List D} : DK w.H a ks us → RVs C w us ds → CR C w a (.dct ks ds)
  | dcn {es : List NE} {ks ds : List D} : w.H a = some (dN C.P C.W a es) → RVs C w (adrs es) ks → NQ es ks → RVs C w (vls es) ds → CR C w a (.dcn ks ds)
  | ins {c : Nat} {dx : Addr} {fs : List (Str × V)} {ds : List (Nat × D)} : w.H a = some (.ins (C.ca c) dx fs) → (∀ p ∈ ds, p.1 < 4) → fs.map (·.1) = ds.map (fun p => C.fname p.1) → RVs C w (fs.map (·.2)) (ds.map (·.2)) → CR C w a (.ins c ds)
structure StR (C : Ct) (w : Wd) (st : Store) : Prop where
  len : st.length = w.φ.length
  at_ : ∀ (n : Nat) (c : Cell) (a : Addr), st[n]? = some c → w.φ[n]? = some a → CR C w a c
theorem CR.mono {C : Ct} {w w' : Wd} {a : Addr} {c : Cell} (h : CR C w a c) (hs : ∀ a o, w.S a = some o → w'.S a = some o) (hp : ∀ (n : Nat) (a : Addr), w.φ[n]? = some a → w'.φ[n]? = some a) (ha : w'.H a = w.H a) : CR C w' a c := by
  cases h with
  | lst h r => exact .lst (ha.trans h) (r.mono hs hp)
  | dct h r => obtain ⟨kvs, e, q⟩ := h; exact .dct ⟨kvs, ha.trans e, q⟩ (r.mono hs hp)
  | dcn h k q r => exact .dcn (ha.trans h) (k.mono hs hp) q (r.mono hs hp)
  | ins h k n r => exact .ins (ha.trans h) k n (r.mono hs hp)
theorem StR.get {C : Ct} {w : Wd} {st : Store} (h : StR C w st) {n : Nat} {c : Cell} (e : st[n]? = some c) : ∃ a, w.φ[n]? = some a ∧ CR C w a c := by
  have hn : n < w.φ.length := by rw [← h.len]; exact (List.getElem?_eq_some_iff.mp e).1
  exact ⟨_, List.getElem?_eq_getElem hn, h.at_ n c _ e (List.getElem?_eq_getElem hn)⟩

/-- the local names -/
def isOwn : Sl → Bool
  | .own _ => true
  | .lck _ => true
  | _ => false
def SlR (C : Ct) (w : Wd) (o : Option V) : Sl → Prop
  | .emp => True
  | .val d => ∃ v, o = some v ∧ RV C w v d
  | .own d => ∃ a, o = some (.ref a) ∧ OwR C w a d
  | .lck d => ∃ a, o = some (.ref a) ∧ OwR C w a d
structure EnvR (C : Ct) (w : Wd) (env : Env) (σ : L2.St) : Prop where
  len : env.length = σ.length
  at_ : ∀ (i : Nat) (s : Sl) (o : Option V), env[i]? = some s → σ[i]? = some o → SlR C w o s
  one : ∀ (i j : Nat) (s s' : Sl) (o : Option V), env[i]? = some s → env[j]? = some s' → isOwn s = true → isOwn s' = true → σ[i]? = some o → σ[j]? = some o → i = j
theorem SlR.mono {C : Ct} {w w' : Wd} {o : Option V} {s : Sl} (h : SlR C w o s) (x : Ext w w') : SlR C w' o s := by
  cases s with
  | emp => trivial
  | val d => obtain ⟨v, e, r⟩ := h; exact ⟨v, e, r.ext x⟩
  | own d => obtain ⟨v, e, r⟩ := h; exact ⟨v, e, r.ext x⟩
  | lck d => obtain ⟨v, e, r⟩ := h; exact ⟨v, e, r.ext x⟩
theorem EnvR.ext {C : Ct} {w w' : Wd} {env : Env} {σ : L2.St} (h : EnvR C w env σ) (x : Ext w w') : EnvR C w' env σ :=
  ⟨h.len, fun i s o e1 e2 => (h.at_ i s o e1 e2).mono x, h.one⟩
theorem EnvR.get {C : Ct} {w : Wd} {env : Env} {σ : L2.St} (h : EnvR C w env σ) {i : Nat} {s : Sl} (e : env[i]? = some s) : ∃ o, σ[i]? = some o ∧ SlR C w o s := by
  have hi : i < σ.length := by rw [← h.len]; exact (List.getElem?_eq_some_iff.mp e).1
  exact ⟨_, List.getElem?_eq_getElem hi, h.at_ i s _ e (List.getElem?_eq_getElem hi)⟩
/-- a name is given a value -/
theorem EnvR.setVal {C : Ct} {w : Wd} {env : Env} {σ : L2.St} (h : EnvR C w env σ) {v : V} {d : D} (r : RV C w v d) (i : Nat) : EnvR C w (env.set i (.val d)) (σ.set i (some v)) := by
  refine ⟨by simp [h.len], fun j s o e1 e2 => ?_, fun j k s s' o e1 e2 h1 h2 e3 e4 => ?_⟩
  · by_cases hj : i = j
    · subst hj
      rw [List.getElem?_set] at e1 e2
      simp only [if_true] at e1 e2
      split at e1
      · split at e2
        · cases e1; cases e2; exact ⟨v, rfl, r⟩
        · cases e2
      · cases e1
    · rw [List.getElem?_set_ne hj] at e1 e2
      exact h.at_ j s o e1 e2
  · have nj : i ≠ j := fun z => by
      subst z
      rw [List.getElem?_set] at e1
      simp only [if_true] at e1
      split at e1
      · cases e1; cases h1
      · cases e1
    have nk : i ≠ k := fun z => by
      subst z
      rw [List.getElem?_set] at e2
      simp only [if_true] at e2
      split at e2
      · cases e2; cases h2
      · cases e2
    rw [List.getElem?_set_ne nj] at e1 e3
    rw [List.getElem?_set_ne nk] at e2 e4
    exact h.one j k s s' o e1 e2 h1 h2 e3 e4
/-- a name is given a new thing that it alone holds -/
theorem EnvR.setOwn {i : Nat} {C : Ct} {w : Wd} {env : Env} {σ : L2.St} (h : EnvR C w env σ) {a : Addr} {d : D} (r : OwR C w a d) (hn : ∀ (j : Nat) (s : Sl), j ≠ i → env[j]? = some s → isOwn s = true → σ[j]? ≠ some (some (.ref a))) : EnvR C w (env.set i (.own d)) (σ.set i (some (.ref a))) := by
  have key : ∀ (j : Nat) (s : Sl) (o : Option V), i ≠ j → (env.set i (.own d))[j]? = some s → (σ.set i (some (V.ref a)))[j]? = some o → env[j]? = some s ∧ σ[j]? = some o := fun j s o hj e1 e2 => by
    rw [List.getElem?_set_ne hj] at e1 e2
    exact ⟨e1, e2⟩
  have me : ∀ o, (σ.set i (some (V.ref a)))[i]? = some o → o = some (.ref a) := fun o e => by
    rw [List.getElem?_set] at e
    simp only [if_true] at e
    split at e
    · exact (Option.some.inj e).symm
    · cases e
  refine ⟨by simp [h.len], fun j s o e1 e2 => ?_, fun j k s s' o e1 e2 h1 h2 e3 e4 => ?_⟩
  · by_cases hj : i = j
    · subst hj
      rw [List.getElem?_set] at e1
      simp only [if_true] at e1
      split at e1
      · cases e1; exact ⟨a, me o e2, r⟩
      · cases e1
    · obtain ⟨q1, q2⟩ := key j s o hj e1 e2
      exact h.at_ j s o q1 q2
  · by_cases hj : i = j
    · by_cases hk : i = k
      · exact hj.symm.trans hk
      · subst hj
        obtain ⟨q1, q2⟩ := key k s' o hk e2 e4
        rw [me o e3] at q2
        exact absurd q2 (hn k s' (Ne.symm hk) q1 h2)
    · by_cases hk : i = k
      · subst hk
        obtain ⟨q1, q2⟩ := key j s o hj e1 e3
        rw [me o e4] at q2
        exact absurd q2 (hn j s (Ne.symm hj) q1 h1)
      · obtain ⟨q1, q2⟩ := key j s o hj e1 e3
        obtain ⟨q3, q4⟩ := key k s' o hk e2 e4
        exact h.one j k s s' o q1 q3 h1 h2 q2 q4
/-- nothing else of the names stands at a new place -/
theorem EnvR.new {C : Ct} {w : Wd} {env : Env} {σ : L2.St} (h : EnvR C w env σ) {a : Addr} (hn : w.H a = none) : ∀ (j : Nat) (s : Sl), env[j]? = some s → isOwn s = true → σ[j]? ≠ some (some (.ref a)) := fun j s e1 e2 e3 => by
  have q := h.at_ j s _ e1 e3
  cases s with
  | emp => cases e2
  | val _ => cases e2
  | own d =>
    obtain ⟨b, e, r⟩ := q
    cases e
    obtain ⟨o, z⟩ := r.h.thr
    rw [hn] at z; cases z
  | lck d =>
    obtain ⟨b, e, r⟩ := q
    cases e
    obtain ⟨o, z⟩ := r.h.thr
    rw [hn] at z; cases z
theorem EnvR.wipe {C : Ct} {w : Wd} {env : Env} {σ : L2.St} (h : EnvR C w env σ) : ∀ vs : List Nat, EnvR C w (Mi.wipe env vs) (L2.wipe σ vs)
  | [] => h
  | v :: vs => by
    have ih := h.wipe vs
    unfold Mi.wipe L2.wipe
    have key : ∀ (j : Nat) (s : Sl), ((Mi.wipe env vs).set v .emp)[j]? = some s → s = .emp ∨ (v ≠ j ∧ (Mi.wipe env vs)[j]? = some s) := fun j s e => by
      by_cases hj : v = j
      · subst hj
        rw [List.getElem?_set] at e
        simp only [if_true] at e
        split at e
        · cases e; exact .inl rfl
        · cases e
      · rw [List.getElem?_set_ne hj] at e
        exact .inr ⟨hj, e⟩
    refine ⟨by simp [ih.len], fun j s o e1 e2 => ?_, fun j k s s' o e1 e2 h1 h2 e3 e4 => ?_⟩
    · rcases key j s e1 with rfl | ⟨hj, e⟩
      · trivial
      · rw [List.getElem?_set_ne hj] at e2
        exact ih.at_ j s o e e2
    · rcases key j s e1 with rfl | ⟨hj, e⟩
      · cases h1
      · rcases key k s' e2 with rfl | ⟨hk, e'⟩
        · cases h2
        · rw [List.getElem?_set_ne hj] at e3
          rw [List.getElem?_set_ne hk] at e4
          exact ih.one j k s s' o e e' h1 h2 e3 e4

/-! ### the worlds grow -/
/-- a new thing that nobody changes -/
def Wd.add (w : Wd) (p : Addr) (o : HO) : Wd := ⟨upd w.S p o, upd w.H p o, w.φ⟩
theorem Ext.add {w : Wd} (h : Wok w) {p : Addr} {o : HO} (hn : w.H p = none) : Ext w (w.add p o) := by
  have np : p ∉ w.φ := fun z => h.there p z hn
  have ns : w.S p = none := by
    cases q : w.S p with
    | none => rfl
    | some u => rw [h.sub p u q] at hn; cases hn
  have ne : ∀ {b : Addr} {H : Hp} {u : HO}, H p = none → H b = some u → b ≠ p := fun hp e z => by subst z; rw [hp] at e; cases e
  refine ⟨⟨fun a u e => ?_, h.nd, fun a ha => ?_, fun a ha => ?_⟩, fun a u e => ?_, fun a u e => ?_, fun a u e _ => ?_, List.prefix_refl _, fun a ha => .inl ha⟩
  · by_cases ha : a = p
    · subst ha; exact (upd_same (H := w.H)).trans ((upd_same (H := w.S)).symm.trans e)
    · have e : upd w.S p o a = some u := e
      rw [upd_ne ha] at e
      show upd w.H p o a = some u
      rw [upd_ne ha]; exact h.sub a u e
  · have : a ≠ p := fun z => np (z ▸ ha)
    show upd w.S p o a = none
    rw [upd_ne this]; exact h.out a ha
  · have : a ≠ p := fun z => np (z ▸ ha)
    show upd w.H p o a ≠ none
    rw [upd_ne this]; exact h.there a ha
  · show upd w.S p o a = some u
    rw [upd_ne (ne ns e)]; exact e
  · by_cases ha : a = p
    · subst ha; exact .inr hn
    · have e : upd w.S p o a = some u := e
      rw [upd_ne ha] at e; exact .inl e
  · show upd w.H p o a = some u
    rw [upd_ne (ne hn e)]; exact e
theorem StR.ext {C : Ct} {w w' : Wd} {st : Store} (h : StR C w st) (x : Ext w w') (hp : w'.φ = w.φ) (hh : ∀ a ∈ w.φ, w'.H a = w.H a) : StR C w' st :=
  ⟨by rw [hp]; exact h.len, fun n c a e1 e2 => by
    rw [hp] at e2
    exact (h.at_ n c a e1 e2).mono x.sub x.phi (hh a (List.mem_of_getElem? e2))⟩
theorem StR.add {C : Ct} {w : Wd} {st : Store} (h : StR C w st) (ok : Wok w) {p : Addr} {o : HO} (hn : w.H p = none) : StR C (w.add p o) st :=
  h.ext (Ext.add ok hn) rfl fun a ha => upd_ne (fun z => ok.there a ha (by rw [z]; exact hn))
theorem Wd.sT {C : Ct} {w : Wd} {p : Addr} {vs : List V} {ds : List D} (r : RVs C (w.add p (.tup vs)) vs ds) : RV C (w.add p (.tup vs)) (.ref p) (.tup ds) := .tup (SqT.of upd_same) r
theorem Wd.sL {C : Ct} {w : Wd} {p : Addr} {vs : List V} {ds : List D} (r : RVs C (w.add p (.lst vs)) vs ds) : RV C (w.add p (.lst vs)) (.ref p) (.lst ds) := .lst upd_same r

/-! ### what is read at once, with the store -/
theorem res_lst {C : Ct} {w : Wd} {st : Store} {v : V} {d : D} {xs : List D} (ok : Wok w) (hs : StR C w st) (r : RT C w v d) (e : res st d = .lst xs) : ∃ a vs, v = .ref a ∧ w.H a = some (.lst vs) ∧ RVs C w vs xs := by
  rcases r with r | ⟨a, rfl, r⟩
  · cases r with
    | loc h =>
      rename_i a n
      have e : (match st[n]? with
        | some (.lst xs) => D.lst xs
        | some (.dct ks vs) => D.dct ks vs
        | some (.dcn ks vs) => D.dcn ks vs
        | _ => D.loc n) = .lst xs := e
      cases q : st[n]? with
      | none => rw [q] at e; cases e
      | some c =>
        rw [q] at e
        cases c with
        | lst ys =>
          cases e
          have z := hs.at_ n _ a q h
          cases z with
          | lst h1 h2 => exact ⟨a, _, rfl, h1, h2⟩
        | dct _ _ => cases e
        | dcn _ _ => cases e
        | ins _ _ => cases e
    | lst h1 h2 => cases e; exact ⟨_, _, rfl, ok.sub _ _ h1, h2⟩
    | _ => cases e
  · cases r.h with
    | lst h1 h2 => cases e; exact ⟨a, _, rfl, h1, h2⟩
    | dct h1 h2 => cases e
    | dcn h1 h2 h3 h4 => cases e
theorem res_tup {C : Ct} {w : Wd} {st : Store} {v : V} {d : D} {xs : List D} (ok : Wok w) (r : RT C w v d) (e : res st d = .tup xs) : ∃ a vs, v = .ref a ∧ SqT C.K w.H a vs ∧ RVs C w vs xs := by
  rcases r with r | ⟨a, rfl, r⟩
  · cases r with
    | loc h =>
      rename_i a n
      have e : (match st[n]? with
        | some (.lst xs) => D.lst xs
        | some (.dct ks vs) => D.dct ks vs
        | some (.dcn ks vs) => D.dcn ks vs
        | _ => D.loc n) = .tup xs := e
      cases q : st[n]? with
      | none => rw [q] at e; cases e
      | some c => rw [q] at e; cases c <;> cases e
    | tup h1 h2 => cases e; exact ⟨_, _, rfl, SqT.mono' ok.sub h1, h2⟩
    | rowt h1 h2 h3 => cases e; exact ⟨_, _, rfl, .inl (.inr ⟨_, ok.sub _ _ h1⟩), h3⟩
    | _ => cases e
  · cases r.h with
    | lst h1 h2 => cases e
    | dct h1 h2 => cases e
    | dcn h1 h2 h3 h4 => cases e
theorem res_int {C : Ct} {w : Wd} {st : Store} {v : V} {d : D} {i : Int} (r : RT C w v d) (e : res st d = .int i) : v = .int i := by
  rcases r with r | ⟨a, rfl, r⟩
  · cases r with
    | loc h =>
      rename_i a n
      have e : (match st[n]? with
        | some (.lst xs) => D.lst xs
        | some (.dct ks vs) => D.dct ks vs
        | some (.dcn ks vs) => D.dcn ks vs
        | _ => D.loc n) = .int i := e
      cases q : st[n]? with
      | none => rw [q] at e; cases e
      | some c => rw [q] at e; cases c <;> cases e
    | int i => cases e; rfl
    | _ => cases e
  · cases r.h with
    | lst h1 h2 => cases e
    | dct h1 h2 => cases e
    | dcn h1 h2 h3 h4 => cases e
theorem res_bl {C : Ct} {w : Wd} {st : Store} {v : V} {d : D} {i : Bool} (r : RT C w v d) (e : res st d = .bl i) : v = .bl i := by
  rcases r with r | ⟨a, rfl, r⟩
  · cases r with
    | loc h =>
      rename_i a n
      have e : (match st[n]? with
        | some (.lst xs) => D.lst xs
        | some (.dct ks vs) => D.dct ks vs
        | some (.dcn ks vs) => D.dcn ks vs
        | _ => D.loc n) = .bl i := e
      cases q : st[n]? with
      | none => rw [q] at e; cases e
      | some c => rw [q] at e; cases c <;> cases e
    | bl i => cases e; rfl
    | _ => cases e
  · cases r.h with
    | lst h1 h2 => cases e
    | dct h1 h2 => cases e
    | dcn h1 h2 h3 h4 => cases e
theorem res_non {C : Ct} {w : Wd} {st : Store} {v : V} {d : D} (r : RT C w v d) (e : res st d = .non) : v = .non := by
  rcases r with r | ⟨a, rfl, r⟩
  · cases r with
    | loc h =>
      rename_i a n
      have e : (match st[n]? with
        | some (.lst xs) => D.lst xs
        | some (.dct ks vs) => D.dct ks vs
        | some (.dcn ks vs) => D.dcn ks vs
        | _ => D.loc n) = .non := e
      cases q : st[n]? with
      | none => rw [q] at e; cases e
      | some c => rw [q] at e; cases c <;> cases e
    | non => rfl
    | _ => cases e
  · cases r.h with
    | lst h1 h2 => cases e
    | dct h1 h2 => cases e
    | dcn h1 h2 h3 h4 => cases e
theorem res_str {C : Ct} {w : Wd} {st : Store} {v : V} {d : D} {i : List Nat} (r : RT C w v d) (e : res st d = .str i) : ∃ x : Str, v = .str x ∧ x.cps.toList = i := by
  rcases r with r | ⟨a, rfl, r⟩
  · cases r with
    | loc h =>
      rename_i a n
      have e : (match st[n]? with
        | some (.lst xs) => D.lst xs
        | some (.dct ks vs) => D.dct ks vs
        | some (.dcn ks vs) => D.dcn ks vs
        | _ => D.loc n) = .str i := e
      cases q : st[n]? with
      | none => rw [q] at e; cases e
      | some c => rw [q] at e; cases c <;> cases e
    | str x => cases e; exact ⟨x, rfl, rfl⟩
    | _ => cases e
  · cases r.h with
    | lst h1 h2 => cases e
    | dct h1 h2 => cases e
    | dcn h1 h2 h3 h4 => cases e
theorem res_scr {C : Ct} {w : Wd} {st : Store} {v : V} {d : D} {xs : List D} (ok : Wok w) (r : RT C w v d) (e : res st d = .scr xs) : ∃ a vs, v = .ref a ∧ SqL C.K w.H a vs ∧ RVs C w vs xs := by
  rcases r with r | ⟨a, rfl, r⟩
  · cases r with
    | loc h =>
      rename_i a n
      have e : (match st[n]? with
        | some (.lst xs) => D.lst xs
        | some (.dct ks vs) => D.dct ks vs
        | some (.dcn ks vs) => D.dcn ks vs
        | _ => D.loc n) = .scr xs := e
      cases q : st[n]? with
      | none => rw [q] at e; cases e
      | some c => rw [q] at e; cases c <;> cases e
    | scr h1 h2 => cases e; exact ⟨_, _, rfl, SqL.mono' ok.sub h1, h2⟩
    | _ => cases e
  · cases r.h with
    | lst h1 h2 => cases e
    | dct h1 h2 => cases e
    | dcn h1 h2 h3 h4 => cases e
mutual
theorem key_is {C : Ct} {w : Wd} (ok : Wok w) : ∀ {v : V} {d : D}, RV C w v d → D.keyA d = true → KeyV C.K w.H (toNK d) v
  | _, _, .int i, _ => .int i
  | _, _, .tup h r, k => .tup (SqT.mono' ok.sub h) (keys_is ok r k)
  | _, _, .non, k => by cases k
  | _, _, .bl _, k => by cases k
  | _, _, .str _, k => by cases k
  | _, _, .lst _ _, k => by cases k
  | _, _, .scr _ _, k => by cases k
  | _, _, .rowt _ _ _, k => by cases k
  | _, _, .dct _ _, k => by cases k
  | _, _, .dcn _ _ _ _, k => by cases k
  | _, _, .loc _, k => by cases k
  | _, _, .fn _, k => by cases k
theorem keys_is {C : Ct} {w : Wd} (ok : Wok w) : ∀ {vs : List V} {ds : List D}, RVs C w vs ds → D.keysA ds = true → KeyVs C.K w.H (toNKs ds) vs
  | _, _, .nil, _ => .nil
  | _, _, .cons h r, k => by
    rw [D.keysA] at k
    obtain ⟨a, b⟩ := Bool.and_eq_true_iff.mp k
    exact .cons (key_is ok h a) (keys_is ok r b)
end
mutual
theorem nk_depth : ∀ {d : D}, D.keyA d = true → (toNK d).depth = d.depth
  | .int i, _ => rfl
  | .tup xs, k => by
    show NestedKey.depthAll (toNKs xs) + 1 = D.depths xs + 1
    rw [nks_depth (xs := xs) k]
  | .non, k => by cases k
  | .bl _, k => by cases k
  | .str _, k => by cases k
  | .lst _, k => by cases k
  | .scr _, k => by cases k
  | .rowt _, k => by cases k
  | .dct _ _, k => by cases k
  | .dcn _ _, k => by cases k
  | .loc _, k => by cases k
  | .fn _, k => by cases k
  | .exc _, k => by cases k
theorem nks_depth : ∀ {xs : List D}, D.keysA xs = true → NestedKey.depthAll (toNKs xs) = D.depths xs
  | [], _ => rfl
  | x :: xs, k => by
    rw [D.keysA] at k
    obtain ⟨a, b⟩ := Bool.and_eq_true_iff.mp k
    show max (toNK x).depth (NestedKey.depthAll (toNKs xs)) = max x.depth (D.depths xs)
    rw [nk_depth a, nks_depth b]
end
mutual
theorem nk_beq : ∀ {d e : D}, D.keyA d = true → D.keyA e = true → NestedKey.beq (toNK d) (toNK e) = D.eqv d e
  | .int i, .int j, _, _ => by
    show decide (i = j) = (i == j)
    by_cases h : i = j
    · subst h; simp
    · rw [decide_eq_false h, beq_eq_false_iff_ne.mpr h]
  | .int i, .tup ys, _, _ => rfl
  | .tup xs, .int j, _, _ => rfl
  | .tup xs, .tup ys, a, b => nks_beq (xs := xs) (ys := ys) a b
  | .non, _, k, _ => by cases k
  | .bl _, _, k, _ => by cases k
  | .str _, _, k, _ => by cases k
  | .lst _, _, k, _ => by cases k
  | .scr _, _, k, _ => by cases k
  | .rowt _, _, k, _ => by cases k
  | .dct _ _, _, k, _ => by cases k
  | .dcn _ _, _, k, _ => by cases k
  | .loc _, _, k, _ => by cases k
  | .fn _, _, k, _ => by cases k
  | .exc _, _, k, _ => by cases k
  | .int _, .non, _, k => by cases k
  | .int _, .bl _, _, k => by cases k
  | .int _, .str _, _, k => by cases k
  | .int _, .lst _, _, k => by cases k
  | .int _, .scr _, _, k => by cases k
  | .int _, .rowt _, _, k => by cases k
  | .int _, .dct _ _, _, k => by cases k
  | .int _, .dcn _ _, _, k => by cases k
  | .int _, .loc _, _, k => by cases k
  | .int _, .fn _, _, k => by cases k
  | .int _, .exc _, _, k => by cases k
  | .tup _, .non, _, k => by cases k
  | .tup _, .bl _, _, k => by cases k
  | .tup _, .str _, _, k => by cases k
  | .tup _, .lst _, _, k => by cases k
  | .tup _, .scr _, _, k => by cases k
  | .tup _, .rowt _, _, k => by cases k
  | .tup _, .dct _ _, _, k => by cases k
  | .tup _, .dcn _ _, _, k => by cases k
  | .tup _, .loc _, _, k => by cases k
  | .tup _, .fn _, _, k => by cases k
  | .tup _, .exc _, _, k => by cases k
theorem nks_beq : ∀ {xs ys : List D}, D.keysA xs = true → D.keysA ys = true → NestedKey.beqAll (toNKs xs) (toNKs ys) = D.eqvs xs ys
  | [], [], _, _ => rfl
  | [], _ :: _, _, _ => rfl
  | _ :: _, [], _, _ => rfl
  | x :: xs, y :: ys, a, b => by
    rw [D.keysA] at a b
    obtain ⟨a1, a2⟩ := Bool.and_eq_true_iff.mp a
    obtain ⟨b1, b2⟩ := Bool.and_eq_true_iff.mp b
    show (NestedKey.beq (toNK x) (toNK y) && NestedKey.beqAll (toNKs xs) (toNKs ys)) = (D.eqv x y && D.eqvs xs ys)
    rw [nk_beq a1 b1, nks_beq a2 b2]
end
theorem keyOk_A {d : D} (h : keyOk d = true) : D.keyA d = true ∧ d.depth ≤ 8 := by
  cases d <;> first | cases h | skip
  rename_i xs
  obtain ⟨a, b⟩ := Bool.and_eq_true_iff.mp h
  exact ⟨a, by show D.depths xs + 1 ≤ 8; have := Nat.le_of_ble_eq_true b; omega⟩
theorem nk_eq {d e : D} (hd : keyOk d = true) (he : keyOk e = true) : decide (toNK d = toNK e) = D.eqv d e := by
  rw [NestedKey.decide_eq, nk_beq (keyOk_A hd).1 (keyOk_A he).1]
/-- a key that stands -/
theorem key_at {C : Ct} {w : Wd} (ok : Wok w) {v : V} {d : D} (r : RV C w v d) (h : keyOk d = true) : ∃ b, v = .ref b ∧ KeyV C.K w.H (toNK d) (.ref b) ∧ (toNK d).depth ≤ 8 := by
  obtain ⟨a, dp⟩ := keyOk_A h
  have k := key_is ok r a
  cases d <;> first | cases h | skip
  cases r with
  | tup h1 h2 => exact ⟨_, rfl, k, by rw [nk_depth a]; exact dp⟩
theorem keys_at {C : Ct} {w : Wd} (ok : Wok w) : ∀ {es : List NE} {ks : List D}, RVs C w (adrs es) ks → NQ es ks → KeysAt C.K w.H es
  | [], _, _, _ => fun x hx => nomatch hx
  | e :: es, [], r, _ => by cases r
  | e :: es, k :: ks, .cons r t, q => by
    have q1 : e.1 = toNK k := by
      have := q.eq
      rw [List.map_cons, List.map_cons] at this
      exact (List.cons.inj this).1
    have q2 : NQ es ks := ⟨fun k hk => q.ok k (List.mem_cons_of_mem _ hk), by
      have := q.eq
      rw [List.map_cons, List.map_cons] at this
      exact (List.cons.inj this).2, (List.nodup_cons.mp q.nd).2⟩
    obtain ⟨b, eb, kb, kd⟩ := key_at ok r (q.ok k List.mem_cons_self)
    cases eb
    intro x hx
    rcases List.mem_cons.mp hx with rfl | hx
    · rw [q1]; exact ⟨kb, kd⟩
    · exact keys_at ok t q2 x hx
theorem nq_cons {e : NE} {es : List NE} {k : D} {ks : List D} (q : NQ (e :: es) (k :: ks)) : e.1 = toNK k ∧ NQ es ks := by
  have := q.eq
  rw [List.map_cons, List.map_cons] at this
  exact ⟨(List.cons.inj this).1, fun k hk => q.ok k (List.mem_cons_of_mem _ hk), (List.cons.inj this).2, (List.nodup_cons.mp q.nd).2⟩
theorem has_n {x : D} (hx : keyOk x = true) : ∀ {es : List NE} {ks : List D}, NQ es ks → (es.any fun e => decide (e.1 = toNK x)) = has x ks
  | [], [], _ => rfl
  | [], _ :: _, q => by have := q.eq; cases this
  | _ :: _, [], q => by have := q.eq; cases this
  | e :: es, k :: ks, q => by
    obtain ⟨q1, q2⟩ := nq_cons q
    rw [List.any_cons, has_n hx q2, q1, nk_eq (q.ok k List.mem_cons_self) hx]
    rfl
theorem look_n {C : Ct} {w : Wd} {x : D} (hx : keyOk x = true) : ∀ {es : List NE} {ks ds : List D}, NQ es ks → RVs C w (vls es) ds → (∃ v d, valN es (toNK x) = some v ∧ look x ks ds = some d ∧ RV C w v d) ∨ (valN es (toNK x) = none ∧ look x ks ds = none)
  | [], [], _, _, .nil => .inr ⟨rfl, rfl⟩
  | [], _ :: _, _, q, _ => by have := q.eq; cases this
  | _ :: _, [], _, q, _ => by have := q.eq; cases this
  | e :: es, k :: ks, d :: ds, q, .cons r t => by
    obtain ⟨q1, q2⟩ := nq_cons q
    have h1 := nk_eq (q.ok k List.mem_cons_self) hx
    unfold valN look
    rw [List.find?_cons, q1, h1]
    cases c : D.eqv k x with
    | true => exact .inl ⟨_, _, rfl, rfl, r⟩
    | false =>
      have := look_n (C := C) (w := w) hx q2 t
      exact this
theorem put_n {C : Ct} {w : Wd} {x d : D} {b : Addr} {v : V} (hx : keyOk x = true) (rb : RV C w (.ref b) x) (rv : RV C w v d) : ∀ {es : List NE} {ks ds : List D}, RVs C w (adrs es) ks → NQ es ks → RVs C w (vls es) ds →
    RVs C w (adrs (putN es (toNK x) b v)) (putK x d ks ds).1 ∧ NQ (putN es (toNK x) b v) (putK x d ks ds).1 ∧ RVs C w (vls (putN es (toNK x) b v)) (putK x d ks ds).2
  | [], [], [], _, _, _ => ⟨.cons rb .nil, ⟨fun k hk => by rw [show (putK x d [] []).1 = [x] from rfl, List.mem_singleton] at hk; rw [hk]; exact hx, rfl, by show [toNK x].Nodup; simp⟩, .cons rv .nil⟩
  | [], _ :: _, _, _, q, _ => by have := q.eq; cases this
  | _ :: _, [], _, _, q, _ => by have := q.eq; cases this
  | [], [], _ :: _, _, _, r => by cases r
  | e :: es, k :: ks, [], _, _, r => by cases r
  | e :: es, k :: ks, d0 :: ds, .cons ra ta, q, .cons r t => by
    have nd := q.nd
    obtain ⟨q1, q2⟩ := nq_cons q
    have h1 := nk_eq (q.ok k List.mem_cons_self) hx
    rw [List.map_cons] at nd
    obtain ⟨n1, n2⟩ := List.nodup_cons.mp nd
    have keys : es.map (·.1) = ks.map toNK := q2.eq
    cases c : D.eqv k x with
    | true =>
      rw [c] at h1
      have e1 : toNK k = toNK x := of_decide_eq_true h1
      have e2 : putN (e :: es) (toNK x) b v = (e.1, e.2.1, v) :: es := by
        unfold putN
        have : (List.any (e :: es) fun y => decide (y.1 = toNK x)) = true := by rw [List.any_cons, q1, h1]; rfl
        rw [if_pos this, List.map_cons, if_pos (by rw [q1, e1])]
        congr 1
        have : ∀ y ∈ es, (if y.1 = toNK x then (y.1, y.2.1, v) else y) = y := fun y hy => if_neg fun z => n1 (by
          rw [← keys, e1, ← z]
          exact List.mem_map.mpr ⟨y, hy, rfl⟩)
        conv => rhs; rw [← List.map_id es]
        exact List.map_congr_left this
      have e3 : putK x d (k :: ks) (d0 :: ds) = (k :: ks, d :: ds) := by
        show (if D.eqv k x then (k :: ks, d :: ds) else _) = _
        rw [c]
        rfl
      rw [e2, e3]
      exact ⟨.cons ra ta, ⟨q.ok, by rw [List.map_cons, List.map_cons, keys, ← q1], List.nodup_cons.mpr ⟨n1, n2⟩⟩, .cons rv t⟩
    | false =>
      rw [c] at h1
      have e1 : ¬ toNK k = toNK x := of_decide_eq_false h1
      obtain ⟨i1, i2, i3⟩ := put_n (C := C) (w := w) hx rb rv ta q2 t
      have i4 := i2.nd
      have e2 : putN (e :: es) (toNK x) b v = e :: putN es (toNK x) b v := by
        unfold putN
        have : (List.any (e :: es) fun y => decide (y.1 = toNK x)) = (List.any es fun y => decide (y.1 = toNK x)) := by rw [List.any_cons, q1, h1]; rfl
        rw [this]
        split
        · rw [List.map_cons, if_neg (by rw [q1]; exact e1)]
        · rfl
      have e3 : putK x d (k :: ks) (d0 :: ds) = (k :: (putK x d ks ds).1, d0 :: (putK x d ks ds).2) := by
        show (if D.eqv k x then _ else _) = _
        rw [c]
        rfl
      rw [e2, e3]
      refine ⟨.cons ra i1, ⟨fun y hy => ?_, by rw [List.map_cons, List.map_cons, i2.eq, q1], ?_⟩, .cons r i3⟩
      · rcases List.mem_cons.mp hy with rfl | hy
        · exact q.ok _ List.mem_cons_self
        · exact i2.ok y hy
      · show (toNK k :: (putK x d ks ds).1.map toNK).Nodup
        refine List.nodup_cons.mpr ⟨fun z => ?_, i4⟩
        obtain ⟨y, hy, ey⟩ := List.mem_map.mp z
        have hput : ∀ (ks ds : List D) (y : D), y ∈ (putK x d ks ds).1 → y = x ∨ y ∈ ks := by
          intro ks
          induction ks with
          | nil => intro ds y h; cases ds <;> exact .inl (List.mem_singleton.mp h)
          | cons k0 ks ih =>
            intro ds y h
            cases ds with
            | nil => exact .inl (List.mem_singleton.mp h)
            | cons d0 ds =>
              unfold putK at h
              split at h
              · exact .inr h
              · rcases List.mem_cons.mp h with rfl | h
                · exact .inr List.mem_cons_self
                · rcases ih ds y h with z | z
                  · exact .inl z
                  · exact .inr (List.mem_cons_of_mem _ z)
        rcases hput ks ds y hy with rfl | hy
        · exact e1 ey.symm
        · exact n1 (List.mem_map.mpr ⟨y, hy, ey⟩)
theorem res_dct {C : Ct} {w : Wd} {st : Store} {v : V} {d : D} {ks xs : List D} (ok : Wok w) (hs : StR C w st) (r : RT C w v d) (e : res st d = .dct ks xs) : ∃ a us, v = .ref a ∧ DK w.H a ks us ∧ RVs C w us xs := by
  rcases r with r | ⟨a, rfl, r⟩
  · cases r with
    | loc h =>
      rename_i a n
      have e : (match st[n]? with
        | some (.lst xs) => D.lst xs
        | some (.dct ks vs) => D.dct ks vs
        | some (.dcn ks vs) => D.dcn ks vs
        | _ => D.loc n) = .dct ks xs := e
      cases q : st[n]? with
      | none => rw [q] at e; cases e
      | some c =>
        rw [q] at e
        cases c with
        | dct ys zs =>
          cases e
          have z := hs.at_ n _ a q h
          cases z with
          | dct h1 h2 => exact ⟨a, _, rfl, h1, h2⟩
        | lst _ => cases e
        | dcn _ _ => cases e
        | ins _ _ => cases e
    | dct h1 h2 => cases e; exact ⟨_, _, rfl, DK.mono ok.sub h1, h2⟩
    | _ => cases e
  · cases r.h with
    | lst h1 h2 => cases e
    | dct h1 h2 => cases e; exact ⟨a, _, rfl, h1, h2⟩
    | dcn h1 h2 h3 h4 => cases e
theorem res_dcn {C : Ct} {w : Wd} {st : Store} {v : V} {d : D} {ks xs : List D} (ok : Wok w) (hs : StR C w st) (r : RT C w v d) (e : res st d = .dcn ks xs) : ∃ a es, v = .ref a ∧ Rd w.H a (dN C.P C.W a es) ∧ RVs C w (adrs es) ks ∧ NQ es ks ∧ RVs C w (vls es) xs := by
  rcases r with r | ⟨a, rfl, r⟩
  · cases r with
    | loc h =>
      rename_i a n
      have e : (match st[n]? with
        | some (.lst xs) => D.lst xs
        | some (.dct ks vs) => D.dct ks vs
        | some (.dcn ks vs) => D.dcn ks vs
        | _ => D.loc n) = .dcn ks xs := e
      cases q : st[n]? with
      | none => rw [q] at e; cases e
      | some c =>
        rw [q] at e
        cases c with
        | dcn ys zs =>
          cases e
          have z := hs.at_ n _ a q h
          cases z with
          | dcn h1 h2 h3 h4 => exact ⟨a, _, rfl, .inl h1, h2, h3, h4⟩
        | lst _ => cases e
        | dct _ _ => cases e
        | ins _ _ => cases e
    | dcn h1 h2 h3 h4 => cases e; exact ⟨_, _, rfl, .inr ⟨_, ok.sub _ _ h1⟩, h2, h3, h4⟩
    | _ => cases e
  · cases r.h with
    | lst h1 h2 => cases e
    | dct h1 h2 => cases e
    | dcn h1 h2 h3 h4 => cases e; exact ⟨a, _, rfl, .inl h1, h2, h3, h4⟩
/-! ### dicts by ints -/
theorem keyD_eqv (k : Key) (i : Int) : D.eqv (keyD k) (.int i) = decide (k = .inl i) := by
  cases k with
  | inl j =>
    show (j == i) = _
    rw [key_ll]
  | inr x => rw [key_rl]; rfl
theorem has_k (i : Int) : ∀ kvs : List (Key × V), (valV kvs (.inl i)).isSome = has (.int i) (kvs.map fun p => keyD p.1)
  | [] => rfl
  | p :: kvs => by
    have ih := has_k i kvs
    unfold valV at ih ⊢
    rw [List.find?_cons, List.map_cons]
    unfold has
    rw [keyD_eqv]
    cases decide (p.1 = Sum.inl i) with
    | true => rfl
    | false => rw [Bool.false_or]; exact ih
theorem look_k {C : Ct} {w : Wd} (i : Int) : ∀ {kvs : List (Key × V)} {ds : List D}, RVs C w (kvs.map (·.2)) ds → (∃ v d, valV kvs (.inl i) = some v ∧ look (.int i) (kvs.map fun p => keyD p.1) ds = some d ∧ RV C w v d) ∨ (valV kvs (.inl i) = none ∧ look (.int i) (kvs.map fun p => keyD p.1) ds = none)
  | [], _, .nil => .inr ⟨rfl, rfl⟩
  | p :: kvs, d :: ds, .cons r t => by
    have ih := look_k (C := C) (w := w) i t
    unfold valV at ih ⊢
    rw [List.find?_cons, List.map_cons]
    unfold look
    rw [keyD_eqv]
    cases decide (p.1 = Sum.inl i) with
    | true => exact .inl ⟨_, _, rfl, rfl, r⟩
    | false => exact ih
theorem put_k {C : Ct} {w : Wd} {i : Int} {v : V} {d : D} (rv : RV C w v d) : ∀ {kvs : List (Key × V)} {ds : List D}, RVs C w (kvs.map (·.2)) ds → (kvs.map (·.1)).Nodup →
    (putK (.int i) d (kvs.map fun p => keyD p.1) ds).1 = (L2.putK kvs (.inl i) v).map (fun p => keyD p.1) ∧ RVs C w ((L2.putK kvs (.inl i) v).map (·.2)) (putK (.int i) d (kvs.map fun p => keyD p.1) ds).2 ∧ ((L2.putK kvs (.inl i) v).map (·.1)).Nodup
  | [], [], .nil, _ => ⟨rfl, .cons rv .nil, by show [(Sum.inl i : Key)].Nodup; simp⟩
  | p :: kvs, d0 :: ds, .cons r t, nd => by
    rw [List.map_cons] at nd
    obtain ⟨n1, n2⟩ := List.nodup_cons.mp nd
    have ih := put_k (C := C) (w := w) (i := i) rv t n2
    have hk := keyD_eqv p.1 i
    rw [List.map_cons]
    cases c : D.eqv (keyD p.1) (.int i) with
    | true =>
      rw [c] at hk
      have e1 : p.1 = .inl i := of_decide_eq_true hk.symm
      have e2 : L2.putK (p :: kvs) (.inl i) v = (p.1, v) :: kvs := by
        unfold L2.putK
        have : (List.any (p :: kvs) fun kv => decide (kv.1 = Sum.inl i)) = true := by rw [List.any_cons, ← hk]; rfl
        rw [if_pos this, List.map_cons, if_pos e1]
        congr 1
        have : ∀ y ∈ kvs, (if y.1 = Sum.inl i then (y.1, v) else y) = y := fun y hy => if_neg fun z => n1 (by
          rw [e1, ← z]
          exact List.mem_map.mpr ⟨y, hy, rfl⟩)
        conv => rhs; rw [← List.map_id kvs]
        exact List.map_congr_left this
      have e3 : putK (.int i) d (keyD p.1 :: kvs.map fun p => keyD p.1) (d0 :: ds) = (keyD p.1 :: kvs.map (fun p => keyD p.1), d :: ds) := by
        show (if D.eqv (keyD p.1) (.int i) then _ else _) = _
        rw [c]
        rfl
      rw [e2, e3]
      exact ⟨rfl, .cons rv t, List.nodup_cons.mpr ⟨n1, n2⟩⟩
    | false =>
      rw [c] at hk
      have e1 : ¬ p.1 = .inl i := of_decide_eq_false hk.symm
      have e2 : L2.putK (p :: kvs) (.inl i) v = p :: L2.putK kvs (.inl i) v := by
        unfold L2.putK
        have : (List.any (p :: kvs) fun kv => decide (kv.1 = Sum.inl i)) = (List.any kvs fun kv => decide (kv.1 = Sum.inl i)) := by rw [List.any_cons, ← hk]; rfl
        rw [this]
        split
        · rw [List.map_cons, if_neg e1]
        · rfl
      have e3 : putK (.int i) d (keyD p.1 :: kvs.map fun p => keyD p.1) (d0 :: ds) = (keyD p.1 :: (putK (.int i) d (kvs.map fun p => keyD p.1) ds).1, d0 :: (putK (.int i) d (kvs.map fun p => keyD p.1) ds).2) := by
        show (if D.eqv (keyD p.1) (.int i) then _ else _) = _
        rw [c]
        rfl
      obtain ⟨i1, i2, i3⟩ := ih
      rw [e2, e3]
      refine ⟨by rw [i1]; rfl, .cons r i2, ?_⟩
      show (p.1 :: (L2.putK kvs (.inl i) v).map (·.1)).Nodup
      refine List.nodup_cons.mpr ⟨fun z => ?_, i3⟩
      obtain ⟨y, hy, ey⟩ := List.mem_map.mp z
      unfold L2.putK at hy
      split at hy
      · obtain ⟨y', hy', rfl⟩ := List.mem_map.mp hy
        have : (if y'.1 = Sum.inl i then (y'.1, v) else y').1 = y'.1 := by split <;> rfl
        rw [this] at ey
        exact n1 (List.mem_map.mpr ⟨y', hy', ey⟩)
      · rcases List.mem_append.mp hy with hy | hy
        · exact n1 (List.mem_map.mpr ⟨y, hy, ey⟩)
        · rw [List.mem_singleton] at hy
          subst hy
          exact e1 ey.symm
end Mi

set_option Elab.async false
set_option linter.all false
set_option maxRecDepth 100000
set_option maxHeartbeats 1000000
/-! Mi2: the judgements of the small language over the model, and the rules for expressions. -/
namespace Mi
open PySem PySem.Spec PyProof.Rows L2
abbrev Slots := L2.St

/-- what an expression does, as its own reading -/
def tE (X : Cx) (e : Expr) : TE := fun σ H Q => ∀ pins s, Inv X pins σ H s → wpAny (model X.prog X.w) X.A (eval e X.env) (EP X pins σ Q) X.xe s
theorem pe_tE {X : Cx} {e : Expr} : PE X e (tE X e) := ⟨fun pins s σ H Q I h => h pins s I⟩
theorem tE_of {X : Cx} {e : Expr} {t : TE} {σ : Slots} {H : Hp} {Q : VK} (h : PE X e t) (q : t σ H Q) : tE X e σ H Q := fun pins s I => h.run pins s σ H Q I q
def tT (X : Cx) (e : Expr) : TT := fun σ H Q => ∀ pins s, Inv X pins σ H s → wpAny (model X.prog X.w) X.A (isTrue e X.env (eval e X.env)) (TP X pins σ Q) X.xe s
theorem pt_tT {X : Cx} {e : Expr} : PT X e (tT X e) := ⟨fun pins s σ H Q I h => h pins s I⟩
theorem tT_of {X : Cx} {e : Expr} {t : TT} {σ : Slots} {H : Hp} {Q : Bool → Hp → Prop} (h : PT X e t) (q : t σ H Q) : tT X e σ H Q := fun pins s I => h.run pins s σ H Q I q
def tA (X : Cx) (es : List Expr) : TA := fun σ H Q => ∀ (pos : Pos) pins s, Inv X pins σ H s → wpAny (model X.prog X.w) X.A (spliced (backTo pos (starEach es X.env))) (AP X pins σ Q) X.xe s
theorem pa_tA {X : Cx} {e : List Expr} : PA X e (tA X e) := ⟨fun pos pins s σ H Q I h => h pos pins s I⟩
theorem tA_of {X : Cx} {e : List Expr} {t : TA} {σ : Slots} {H : Hp} {Q : List V → Hp → Prop} (h : PA X e t) (q : t σ H Q) : tA X e σ H Q := fun pos pins s I => h.run pos pins s σ H Q I q

section
variable (C : Ct) (F : Fns) (X : Cx)
/-- the expression e does what m does -/
def SE (md : Md) (e : Expr) (m : E) : Prop := ∀ (w : Wd) (env : Env) (σ : Slots) (st : Store) (d : D) (st' : Store) (Q : VK), Wok w → EnvR C w env σ → StR C w st → ev F md m env st = .ok d st' →
  (∀ v w', Ext w w' → StR C w' st' → RM md C w' v d → Q v w'.H) → tE X e σ w.H Q
def ST (e : Expr) (m : E) : Prop := ∀ (w : Wd) (env : Env) (σ : Slots) (st : Store) (d : D) (st' : Store) (Q : Bool → Hp → Prop), Wok w → EnvR C w env σ → StR C w st → ev F .read m env st = .ok d st' →
  (∀ b w', Ext w w' → StR C w' st' → d = .bl b → Q b w'.H) → (∃ b, d = .bl b) → tT X e σ w.H Q
def SA (md : Md) (es : List Expr) (ms : List E) : Prop := ∀ (w : Wd) (env : Env) (σ : Slots) (st : Store) (ds : List D) (st' : Store) (Q : List V → Hp → Prop), Wok w → EnvR C w env σ → StR C w st → evs F md ms env st = .ok ds st' →
  (∀ vs w', Ext w w' → StR C w' st' → vs.length = ds.length → (∀ (i : Nat) (v : V) (d : D), vs[i]? = some v → ds[i]? = some d → RM md C w' v d) → Q vs w'.H) → tA X es σ w.H Q
end

section
variable {C : Ct} {F : Fns} {X : Cx} {md : Md}
theorem RM.ext {w w' : Wd} {v : V} {d : D} (h : RM md C w v d) (x : Ext w w') : RM md C w' v d := by
  cases md with
  | kept => exact RV.ext h x
  | walk => exact RV.ext h x
  | read => exact RT.ext h x
  | iter => exact RI.ext h x
theorem RM.rt {w : Wd} {v : V} {d : D} (h : RM md C w v d) : RT C w v d := by
  cases md with
  | kept => exact .inl h
  | walk => exact .inl h
  | read => exact h
  | iter => exact RI.rt h

theorem bind_ok {α β : Type} {r : R α} {f : α → Store → R β} {b : β} {st : Store} (h : r.bind f = .ok b st) : ∃ a st1, r = .ok a st1 ∧ f a st1 = .ok b st := by
  cases r with
  | ok a st1 => exact ⟨a, st1, rfl, h⟩
  | err _ _ => cases h
  | bad => cases h
theorem of_ok {o : Option D} {st st' : Store} {d : D} (h : R.of o st = .ok d st') : o = some d ∧ st = st' := by
  cases o with
  | none => cases h
  | some x => cases h; exact ⟨rfl, rfl⟩

/-! ### constants, names -/
theorem se_int {i : Int} {j : Nat} {pos : Pos} : SE C F X md (.Constant (.int i) j pos) (.con (.int i)) := by
  intro w env σ st d st' Q ok er sr e h
  cases e
  exact tE_of pe_int (h _ w (Ext.refl ok) sr ((RV.int i).rm md))
theorem se_bl {i : Bool} {j : Nat} {pos : Pos} : SE C F X md (.Constant (.bool i) j pos) (.con (.bl i)) := by
  intro w env σ st d st' Q ok er sr e h
  cases e
  exact tE_of pe_bl (h _ w (Ext.refl ok) sr ((RV.bl i).rm md))
theorem se_non {j : Nat} {pos : Pos} : SE C F X md (.Constant .none j pos) (.con .non) := by
  intro w env σ st d st' Q ok er sr e h
  cases e
  exact tE_of pe_non (h _ w (Ext.refl ok) sr (RV.non.rm md))
theorem se_str {x : Str} {j : Nat} {pos : Pos} : SE C F X md (.Constant (.str x) j pos) (.con (.str x.cps.toList)) := by
  intro w env σ st d st' Q ok er sr e h
  cases e
  exact tE_of pe_str (h _ w (Ext.refl ok) sr ((RV.str x).rm md))
theorem se_var {i : Nat} {x : Str} {pos : Pos} (hN : X.N[i]? = some x) (hv : Vis X.env.scope x) (hd : (x == ("__debug__" : Str)) = false) (hcd : (x == ("__classdict__" : Str)) = false) : SE C F X md (.Name x pos) (.var i) := by
  intro w env σ st d st' Q ok er sr e h
  unfold ev at e
  cases q : env[i]? with
  | none => rw [q] at e; cases e
  | some s =>
    rw [q] at e
    obtain ⟨o, eo, r⟩ := er.get q
    cases s with
    | emp => cases e
    | val d0 =>
      cases e
      obtain ⟨v, rfl, r⟩ := r
      exact tE_of (pe_var hN hv hd hcd) ⟨v, eo, h v w (Ext.refl ok) sr (r.rm md)⟩
    | own d0 =>
      obtain ⟨a, rfl, r⟩ := r
      cases md with
      | kept => cases e
      | walk => cases e
      | read => cases e; exact tE_of (pe_var hN hv hd hcd) ⟨_, eo, h _ w (Ext.refl ok) sr (.inr ⟨a, rfl, r⟩)⟩
      | iter => cases d0 <;> first | (cases e; exact tE_of (pe_var hN hv hd hcd) ⟨_, eo, h _ w (Ext.refl ok) sr (.inr ⟨a, rfl, r, _, rfl⟩)⟩) | cases e
    | lck d0 =>
      obtain ⟨a, rfl, r⟩ := r
      cases md with
      | kept => cases e
      | walk => cases e
      | read => cases e; exact tE_of (pe_var hN hv hd hcd) ⟨_, eo, h _ w (Ext.refl ok) sr (.inr ⟨a, rfl, r⟩)⟩
      | iter => cases e
/-- a module's constant -/
theorem se_glob {x : Str} {d0 : D} {v : V} {u : Value} {pos : Pos} {cs : List Nat} (hg : Gl X x) (hm : X.mg x = some u) (r : RelV v u) (rd : ∀ w, RV C w v d0) (hd : (x == ("__debug__" : Str)) = false) : SE C F X md (.Name x pos) (.glob cs d0) := by
  intro w env σ st d st' Q ok er sr e h
  cases e
  exact tE_of (pe_glob hg hm r hd) (h _ w (Ext.refl ok) sr ((rd w).rm md))

/-! ### rows of expressions -/
def plainE : Expr → Bool
  | .Starred .. => false
  | _ => true
theorem star_ok {e : Expr} (h : plainE e = true) (es : List Expr) (env : PySem.Env) : starEach (e :: es) env = (false, eval e env) :: starEach es env := by
  cases e <;> first | rfl | cases h
theorem sa_nil : SA C F X md [] [] := by
  intro w env σ st ds st' Q ok er sr e h
  cases e
  exact tA_of pa_nil (h [] w (Ext.refl ok) sr rfl (fun i v d e _ => by simp at e))
theorem sa_cons {e : Expr} {es : List Expr} {m : E} {ms : List E} (h1 : SE C F X md e m) (h2 : SA C F X md es ms) (hp : plainE e = true) : SA C F X md (e :: es) (m :: ms) := by
  intro w env σ st ds st' Q ok er sr ee h
  unfold evs at ee
  obtain ⟨d, st1, e1, ee⟩ := bind_ok ee
  obtain ⟨ds1, st2, e2, ee⟩ := bind_ok ee
  cases ee
  refine tA_of (pa_cons pe_tE pa_tA (star_ok hp _ _)) ?_
  refine h1 w env σ st d st1 _ ok er sr e1 fun v w1 x1 s1 r1 => ?_
  refine h2 w1 env σ st1 ds1 st' _ x1.ok (er.ext x1) s1 e2 fun vs w2 x2 s2 l2 r2 => ?_
  refine h (v :: vs) w2 (x1.trans x2) s2 (by simp [l2]) fun i v' d' ev ed => ?_
  cases i with
  | zero => simp at ev ed; subst ev; subst ed; exact r1.ext x2
  | succ i => exact r2 i v' d' (by simpa using ev) (by simpa using ed)
theorem rvs_of {w : Wd} : ∀ {vs : List V} {ds : List D}, vs.length = ds.length → (∀ (i : Nat) (v : V) (d : D), vs[i]? = some v → ds[i]? = some d → RV C w v d) → RVs C w vs ds
  | [], [], _, _ => .nil
  | [], _ :: _, h, _ => by simp at h
  | _ :: _, [], h, _ => by simp at h
  | v :: vs, d :: ds, h, r => .cons (r 0 v d rfl rfl) (rvs_of (by simpa using h) fun i v' d' e1 e2 => r (i + 1) v' d' (by simpa using e1) (by simpa using e2))
theorem fit_le {n : Nat} (h : fit n = true) : n ≤ sizeLine := by
  rw [sizeLine_eq]; exact Nat.le_of_ble_eq_true h
theorem se_tup {es : List Expr} {ms : List E} {k : Nat} {pos : Pos} (h1 : SA C F X .kept es ms) : SE C F X md (.Tuple es k pos) (.tup ms) := by
  intro w env σ st d st' Q ok er sr e h
  unfold ev at e
  obtain ⟨ds, st1, e1, e⟩ := bind_ok e
  split at e
  · rename_i hf
    cases e
    refine tE_of (pe_tup pa_tA) (h1 w env σ st ds st' _ ok er sr e1 fun vs w1 x1 s1 l1 r1 => ⟨by rw [l1]; exact fit_le hf, fun p hp => ?_⟩)
    have xa := Ext.add (o := .tup vs) x1.ok hp
    exact h _ _ (x1.trans xa) (s1.add x1.ok hp) ((Wd.sT ((rvs_of l1 r1).ext xa)).rm md)
  · cases e
theorem se_list {es : List Expr} {ms : List E} {pos : Pos} (h1 : SA C F X .kept es ms) : SE C F X md (.List es pos) (.list ms) := by
  intro w env σ st d st' Q ok er sr e h
  unfold ev at e
  obtain ⟨ds, st1, e1, e⟩ := bind_ok e
  split at e
  · rename_i hf
    cases e
    refine tE_of (pe_lst pa_tA) (h1 w env σ st ds st' _ ok er sr e1 fun vs w1 x1 s1 l1 r1 => ⟨by rw [l1]; exact fit_le hf, fun p hp => ?_⟩)
    have xa := Ext.add (o := .lst vs) x1.ok hp
    exact h _ _ (x1.trans xa) (s1.add x1.ok hp) ((Wd.sL ((rvs_of l1 r1).ext xa)).rm md)
  · cases e

/-! ### two operands -/
theorem two {a b : Expr} {ma mb : E} (ha : SE C F X .read a ma) (hb : SE C F X .read b mb) {w : Wd} {env : Env} {σ : Slots} {st st' : Store} {d : D} {k : D → D → Store → R D} {P : V → V → Hp → Prop} (ok : Wok w) (er : EnvR C w env σ) (sr : StR C w st)
    (e : ((ev F .read ma env st).bind fun x st => (ev F .read mb env st).bind fun y st => k x y st) = .ok d st')
    (h : ∀ x y dx dy w2 st2, Ext w w2 → StR C w2 st2 → RT C w2 x dx → RT C w2 y dy → k dx dy st2 = .ok d st' → P x y w2.H) : tE X a σ w.H fun x H1 => tE X b σ H1 fun y H2 => P x y H2 := by
  obtain ⟨dx, st1, e1, e⟩ := bind_ok e
  obtain ⟨dy, st2, e2, e⟩ := bind_ok e
  refine ha w env σ st dx st1 _ ok er sr e1 fun x w1 x1 s1 r1 => ?_
  refine hb w1 env σ st1 dy st2 _ x1.ok (er.ext x1) s1 e2 fun y w2 x2 s2 r2 => ?_
  exact h x y dx dy w2 st2 (x1.trans x2) s2 (RT.ext r1 x2) r2 e

/-- a row of ways to do an operation -/
def rAny : List R2 → R2
  | [] => fun _ _ _ _ => False
  | r :: rs => fun x y H Q => r x y H Q ∨ rAny rs x y H Q
theorem op_any {f : Value → Value → Sem Value} : ∀ {rs : List R2}, (∀ r ∈ rs, OpR X f r) → OpR X f (rAny rs)
  | [], _ => fun _ _ _ _ _ _ _ _ _ _ _ _ h => h.elim
  | r :: rs, h => (h r List.mem_cons_self).or (op_any fun r' hr => h r' (List.mem_cons_of_mem _ hr))
theorem ix_any : ∀ {rs : List R2}, (∀ r ∈ rs, IxR X r) → IxR X (rAny rs)
  | [], _ => fun _ _ _ _ _ _ _ _ _ _ _ _ _ _ h _ => h.elim
  | r :: rs, h => (h r List.mem_cons_self).or (ix_any fun r' hr => h r' (List.mem_cons_of_mem _ hr))
theorem rAny.at {rs : List R2} {r : R2} {x y : V} {H : Hp} {Q : VK} (hr : r ∈ rs) (h : r x y H Q) : rAny rs x y H Q := by
  induction rs with
  | nil => cases hr
  | cons a as ih =>
    rcases List.mem_cons.mp hr with rfl | hr
    · exact .inl h
    · exact .inr (ih hr)

theorem inI_bounds {k : Nat} {i : Int} (h : inI k i = true) : -(2 ^ k : Int) < i ∧ i < 2 ^ k := by
  have h1 : i.natAbs < 2 ^ k := by
    have := h
    unfold inI at this
    exact Nat.lt_of_lt_of_le (Nat.lt_succ_self _) (Nat.le_of_ble_eq_true this)
  have h2 : ((2 ^ k : Nat) : Int) = (2 : Int) ^ k := by simp
  omega
end
end Mi

set_option Elab.async false
set_option linter.all false
set_option maxRecDepth 100000
set_option maxHeartbeats 1000000
namespace Mi
open PySem PySem.Spec PyProof.Rows L2
section
variable {C : Ct} {F : Fns} {X : Cx} {md : Md} {a b c : Expr} {ma mb mc : E} {pos : Pos}

theorem new_tup {w : Wd} {st : Store} {vs : List V} {ds : List D} {Q : VK} (ok : Wok w) (sr : StR C w st) (r : RVs C w vs ds) (h : ∀ v w', Ext w w' → StR C w' st → RM md C w' v (.tup ds) → Q v w'.H) : ∀ p, w.H p = none → Q (.ref p) (upd w.H p (.tup vs)) := fun p hp =>
  have xa := Ext.add (o := .tup vs) ok hp
  h _ _ xa (sr.add ok hp) ((Wd.sT (r.ext xa)).rm md)
theorem new_lst {w : Wd} {st : Store} {vs : List V} {ds : List D} {Q : VK} (ok : Wok w) (sr : StR C w st) (r : RVs C w vs ds) (h : ∀ v w', Ext w w' → StR C w' st → RM md C w' v (.lst ds) → Q v w'.H) : ∀ p, w.H p = none → Q (.ref p) (upd w.H p (.lst vs)) := fun p hp =>
  have xa := Ext.add (o := .lst vs) ok hp
  h _ _ xa (sr.add ok hp) ((Wd.sL (r.ext xa)).rm md)
/-- a tuple that stands -/
theorem old_tup {w : Wd} {v : V} {d : D} {st : Store} {xs : List D} (r : RT C w v d) (e : res st d = .tup xs) : RV C w v (.tup xs) := by
  rcases r with r | ⟨a, rfl, r⟩
  · cases r with
    | tup h1 h2 => cases e; exact .tup h1 h2
    | rowt h1 h2 h3 => cases e; exact .tup (.inl (.inr ⟨_, h1⟩)) h3
    | loc h =>
      rename_i a n
      have e : (match st[n]? with
        | some (.lst xs) => D.lst xs
        | some (.dct ks vs) => D.dct ks vs
        | some (.dcn ks vs) => D.dcn ks vs
        | _ => D.loc n) = .tup xs := e
      cases q : st[n]? with
      | none => rw [q] at e; cases e
      | some c => rw [q] at e; cases c <;> cases e
    | _ => cases e
  · cases r.h with
    | lst h1 h2 => cases e
    | dct h1 h2 => cases e
    | dcn h1 h2 h3 h4 => cases e
theorem str_eq {x : Str} {cs : List Nat} (h : x.cps.toList = cs) : x = ⟨cs.toArray⟩ := by
  cases x with
  | mk a => rw [← h]
theorem RV.strOf {w : Wd} (cs : List Nat) : RV C w (.str ⟨cs.toArray⟩) (.str cs) := by
  have := RV.str (C := C) (w := w) ⟨cs.toArray⟩
  simpa using this

theorem se_add (hK : X.K = C.K) (ha : SE C F X .read a ma) (hb : SE C F X .read b mb) : SE C F X md (.BinOp a .Add b pos) (.bin .add ma mb) := by
  intro w env σ st d st' Q ok er sr e h
  unfold ev at e
  refine tE_of (pe_op (op_any (rs := [rI0 fun i j => .int (i + j), rCatA X.K, rCat, fun x y H Q => ∃ i j, x = .str i ∧ y = .str j ∧ i.length + j.length ≤ sizeLine ∧ Q (.str (i ++ j)) H]) ?_) pe_tE pe_tE) (two ha hb ok er sr e fun x y dx dy w2 st2 x2 s2 r1 r2 e => ?_)
  · intro r hr
    simp only [List.mem_cons, List.mem_nil_iff, or_false] at hr
    rcases hr with rfl | rfl | rfl | rfl
    · exact op_add
    · exact op_catA
    · exact op_cat
    · exact op_add_str
  · obtain ⟨eb, rfl⟩ := of_ok e
    have fin : ∀ v w', Ext w2 w' → StR C w' st2 → RM md C w' v d → Q v w'.H := fun v w' x s r => h v w' (x2.trans x) s r
    unfold bin at eb
    split at eb <;> first | (exfalso; assumption) | skip
    all_goals (try (rename_i h1 _ _; exact absurd h1 (by decide)))
    all_goals (try cases ‹Op.add = _›)
    · rename_i i j e1 e2
      cases eb
      exact .inl ⟨i, j, res_int r1 e1, res_int r2 e2, fin _ _ (Ext.refl x2.ok) s2 ((RV.int _).rm md)⟩
    · rename_i xs ys e1 e2
      split at eb
      · rename_i hf
        cases eb
        obtain ⟨p, vs, rfl, h1, q1⟩ := res_tup x2.ok r1 e1
        obtain ⟨q, us, rfl, h2, q2⟩ := res_tup x2.ok r2 e2
        have o1 := old_tup r1 e1
        have o2 := old_tup r2 e2
        refine .inr (.inl ⟨p, q, vs, us, rfl, rfl, by rw [hK]; exact h1, by rw [hK]; exact h2, by rw [q1.length, q2.length]; exact fit_le hf, fun z => ?_, fun _ z => ?_, fun _ _ => new_tup x2.ok s2 (q1.append q2) fin⟩)
        · subst z
          cases q1
          exact fin _ _ (Ext.refl x2.ok) s2 (o2.rm md)
        · subst z
          cases q2
          rw [List.append_nil] at fin
          exact fin _ _ (Ext.refl x2.ok) s2 (o1.rm md)
      · cases eb
    · rename_i xs ys e1 e2
      split at eb
      · rename_i hf
        cases eb
        obtain ⟨p, vs, rfl, h1, q1⟩ := res_lst x2.ok s2 r1 e1
        obtain ⟨q, us, rfl, h2, q2⟩ := res_lst x2.ok s2 r2 e2
        exact .inr (.inr (.inl ⟨p, q, vs, us, rfl, rfl, h1, h2, by rw [q1.length, q2.length]; exact fit_le hf, new_lst x2.ok s2 (q1.append q2) fin⟩))
      · cases eb
    · rename_i xs ys e1 e2
      split at eb
      · rename_i hf
        cases eb
        obtain ⟨p, rfl, h1⟩ := res_str r1 e1
        obtain ⟨q, rfl, h2⟩ := res_str r2 e2
        have l1 : p.length = xs.length := by rw [← h1]; simp [Str.length]
        have l2 : q.length = ys.length := by rw [← h2]; simp [Str.length]
        refine .inr (.inr (.inr (.inl ⟨p, q, rfl, rfl, by rw [l1, l2]; exact fit_le hf, ?_⟩)))
        have e3 : xs ++ ys = (p ++ q).cps.toList := by
          rw [← h1, ← h2]
          show _ = (p.append q).cps.toList
          simp [Str.append]
        rw [e3] at fin
        exact fin _ _ (Ext.refl x2.ok) s2 ((RV.str _).rm md)
      · cases eb
    · cases eb
theorem se_sub (ha : SE C F X .read a ma) (hb : SE C F X .read b mb) : SE C F X md (.BinOp a .Sub b pos) (.bin .sub ma mb) := by
  intro w env σ st d st' Q ok er sr e h
  unfold ev at e
  refine tE_of (pe_op op_sub pe_tE pe_tE) (two ha hb ok er sr e fun x y dx dy w2 st2 x2 s2 r1 r2 e => ?_)
  obtain ⟨eb, rfl⟩ := of_ok e
  unfold bin at eb
  split at eb
  all_goals (try cases ‹Op.sub = _›)
  · rename_i i j e1 e2
    cases eb
    exact ⟨i, j, res_int r1 e1, res_int r2 e2, h _ _ x2 s2 ((RV.int _).rm md)⟩
  · cases eb
theorem se_fdiv (ha : SE C F X .read a ma) (hb : SE C F X .read b mb) : SE C F X md (.BinOp a .FloorDiv b pos) (.bin .fdiv ma mb) := by
  intro w env σ st d st' Q ok er sr e h
  unfold ev at e
  refine tE_of (pe_op op_fdivN pe_tE pe_tE) (two ha hb ok er sr e fun x y dx dy w2 st2 x2 s2 r1 r2 e => ?_)
  obtain ⟨eb, rfl⟩ := of_ok e
  unfold bin at eb
  split at eb
  all_goals (try cases ‹Op.fdiv = _›)
  · rename_i i j e1 e2
    split at eb
    · rename_i hc
      cases eb
      obtain ⟨c1, c2⟩ := Bool.and_eq_true_iff.mp hc
      exact ⟨i, j, res_int r1 e1, res_int r2 e2, ⟨by simpa using c1, Nat.lt_of_lt_of_le (Nat.lt_succ_self _) (Nat.le_of_ble_eq_true c2)⟩, h _ _ x2 s2 ((RV.int _).rm md)⟩
    · cases eb
  · cases eb
theorem se_mod (ha : SE C F X .read a ma) (hb : SE C F X .read b mb) : SE C F X md (.BinOp a .Mod b pos) (.bin .mod ma mb) := by
  intro w env σ st d st' Q ok er sr e h
  unfold ev at e
  refine tE_of (pe_op op_modN pe_tE pe_tE) (two ha hb ok er sr e fun x y dx dy w2 st2 x2 s2 r1 r2 e => ?_)
  obtain ⟨eb, rfl⟩ := of_ok e
  unfold bin at eb
  split at eb
  all_goals (try cases ‹Op.mod = _›)
  · rename_i i j e1 e2
    split at eb
    · rename_i hc
      cases eb
      exact ⟨i, j, res_int r1 e1, res_int r2 e2, by simpa using hc, h _ _ x2 s2 ((RV.int _).rm md)⟩
    · cases eb
  · cases eb
theorem se_pow (ha : SE C F X .read a ma) (hb : SE C F X .read b mb) : SE C F X md (.BinOp a .Pow b pos) (.bin .pow ma mb) := by
  intro w env σ st d st' Q ok er sr e h
  unfold ev at e
  refine tE_of (pe_op op_pow pe_tE pe_tE) (two ha hb ok er sr e fun x y dx dy w2 st2 x2 s2 r1 r2 e => ?_)
  obtain ⟨eb, rfl⟩ := of_ok e
  unfold bin at eb
  split at eb
  all_goals (try cases ‹Op.pow = _›)
  · rename_i i j e1 e2
    split at eb
    · rename_i hc
      cases eb
      simp only [Bool.and_eq_true, decide_eq_true_eq] at hc
      refine ⟨i, j, res_int r1 e1, res_int r2 e2, ⟨hc.1.1, hc.1.2, ?_⟩, h _ _ x2 s2 ((RV.int _).rm md)⟩
      exact Nat.lt_of_lt_of_le (Nat.lt_succ_self _) (Nat.le_of_ble_eq_true hc.2)
    · cases eb
  · cases eb
end
end Mi

set_option Elab.async false
set_option linter.all false
set_option maxRecDepth 100000
set_option maxHeartbeats 4000000
namespace Mi
open PySem PySem.Spec PyProof.Rows L2
/-- t * 1, () * n: t itself -/
theorem tuple_mul_same (l : Addr) (items : Array Value) (n : Nat) (dd : Option Addr) (sl : Array (Option Value)) (x : Int) (u : Tok) (c0 : (decide (x < -(2 ^ 63)) || decide (x ≥ 2 ^ 63)) = false) (c1 : (items.isEmpty || x == 1) = true) :
    Meets (Builtin.«tuple.__mul__» ⟨[.ref l, .int x u], []⟩) (fun _ R s => s.heap.get? l = some { cls := .type "tuple", dict := dd, data := .seq items n, slots := sl } ∧ R (.ok (.ret (Value.ref l))) s) :=
  .of_wp fun prog w A R s h => by
    obtain ⟨hp, g, d, tk, os⟩ := s
    obtain ⟨hl, h⟩ := h
    have f1 := AutoSeq1.idx_int
    wp_walk using wpAny_loadPart' hl
    repeat (first
      | (refine wpAny_ite_false (decide_eq_false (by rw [c0]; exact Bool.false_ne_true)) ?_; wp_walk using wpAny_loadPart' hl)
      | (refine wpAny_ite_true (decide_eq_true c1) ?_; wp_walk using wpAny_loadPart' hl))
    all_goals exact ⟨_, rfl, h⟩
/-- t * n, n not above nought: () -/
theorem tuple_mul_none (l : Addr) (items : Array Value) (n : Nat) (dd : Option Addr) (sl : Array (Option Value)) (x : Int) (u : Tok) (c0 : (decide (x < -(2 ^ 63)) || decide (x ≥ 2 ^ 63)) = false) (c1 : (items.isEmpty || x == 1) = false) (c2 : (decide (x ≤ 0) || items.isEmpty) = true) :
    Meets (Builtin.«tuple.__mul__» ⟨[.ref l, .int x u], []⟩) (fun _ R s => s.heap.get? l = some { cls := .type "tuple", dict := dd, data := .seq items n, slots := sl } ∧
      R (.ok (.ret (Value.ref s.heap.objs.size))) { s with heap := s.heap.push { cls := Value.type "tuple", data := Data.seq #[] }, toks := s.toks }) :=
  .of_wp fun prog w A R s h => by
    obtain ⟨hp, g, d, tk, os⟩ := s
    obtain ⟨hl, h⟩ := h
    have f1 := AutoSeq1.idx_int
    wp_walk using wpAny_loadPart' hl
    repeat (first
      | (refine wpAny_ite_false (decide_eq_false (by rw [c0]; exact Bool.false_ne_true)) ?_; wp_walk using wpAny_loadPart' hl)
      | (refine wpAny_ite_false (decide_eq_false (by rw [c1]; exact Bool.false_ne_true)) ?_; wp_walk using wpAny_loadPart' hl)
      | (refine wpAny_ite_true (decide_eq_true c2) ?_; wp_walk using wpAny_loadPart' hl)
      | (refine wpAny_ite_false (decide_eq_false (by decide)) ?_; wp_walk using wpAny_loadPart' hl))
    all_goals exact ⟨_, rfl, h⟩

def rRepA (K : PySem.W.Frag) : R2 := fun x y H Q => ∃ l k xs, x = .ref l ∧ y = .int k ∧ SqT K H l xs ∧ -(2 ^ 62) < k ∧ k < 2 ^ 62 ∧ xs.length * k.toNat ≤ sizeLine ∧
  (xs = [] ∨ k = 1 → Q (.ref l) H) ∧ (xs ≠ [] → k ≠ 1 → ∀ p, H p = none → Q (.ref p) (upd H p (.tup (List.replicate k.toNat xs).flatten)))
theorem op_repA {X : Cx} : OpR X (binaryOp .Mult) (rRepA X.K) := by
  intro pins s σ H x y v u Q I rx ry h
  obtain ⟨l, k, xs, rfl, rfl, hT, hk1, hk2, hz, q0, q1⟩ := h
  cases rx
  obtain ⟨t, rfl⟩ := ry
  obtain ⟨its, r, ⟨⟨cls, dd, data, sl⟩, ho, hc, n, hd⟩, hs⟩ := I.tuple hT
  simp only at hc hd
  subst hc hd
  have hle : its.length = xs.length := r.length.symm
  have hsz0 : its.toArray.size = xs.length := by rw [List.size_toArray, hle]
  have c0 : (decide (k < -(2 ^ 63)) || decide (k ≥ 2 ^ 63)) = false := by
    rw [decide_eq_false (by omega), decide_eq_false (by omega)] <;> rfl
  by_cases h0 : xs = [] ∨ k = 1
  · have c1 : (its.toArray.isEmpty || k == 1) = true := by
      rcases h0 with z | z
      · have : its = [] := List.eq_nil_of_length_eq_zero (by rw [hle, z]; rfl)
        subst this; rfl
      · subst z; simp
    refine wpAny_binaryOp_repeat_ref (T := "tuple") (U := "int") (by decide) ⟨_, ho, rfl⟩ (fun s' => typeIs_int s' k t) noFill_tuple_mul F.fills_int_mul F.slot_int_rmul repeat_tuple F.slot_int_index.lookup
      (call_meets F.slot_int_rmul (typeIs_int s k t) F.entry_int_rmul (F.args_int_rmul_2 _ _) (int_rmul_tuple k t l its.toArray n dd sl)
        ⟨ho, rfl, ⟨_, ho, rfl⟩, call_meets F.slot_tuple_mul ⟨_, ho, rfl⟩ F.entry_tuple_mul (F.args_tuple_mul_2 _ _) (tuple_mul_same l its.toArray n dd sl k t c0 c1) ⟨ho, ?_⟩⟩)
    exact ⟨.ref l, H, I, rfl, q0 h0⟩
  · have hne : xs ≠ [] := fun z => h0 (.inl z)
    have hk : k ≠ 1 := fun z => h0 (.inr z)
    have hn : its ≠ [] := fun e => hne (by
      rw [e] at hle
      exact List.eq_nil_of_length_eq_zero hle.symm)
    have hi : its.toArray.isEmpty = false := by
      cases its with
      | nil => exact absurd rfl hn
      | cons a b => rfl
    have c1 : (its.toArray.isEmpty || k == 1) = false := by
      rw [hi, Bool.false_or]
      exact beq_eq_false_iff_ne.mpr hk
    by_cases hp : k ≤ 0
    · have c2 : (decide (k ≤ 0) || its.toArray.isEmpty) = true := by rw [decide_eq_true hp]; rfl
      have e0 : k.toNat = 0 := by omega
      refine wpAny_binaryOp_repeat_ref (T := "tuple") (U := "int") (by decide) ⟨_, ho, rfl⟩ (fun s' => typeIs_int s' k t) noFill_tuple_mul F.fills_int_mul F.slot_int_rmul repeat_tuple F.slot_int_index.lookup
        (call_meets F.slot_int_rmul (typeIs_int s k t) F.entry_int_rmul (F.args_int_rmul_2 _ _) (int_rmul_tuple k t l its.toArray n dd sl)
          ⟨ho, rfl, ⟨_, ho, rfl⟩, call_meets F.slot_tuple_mul ⟨_, ho, rfl⟩ F.entry_tuple_mul (F.args_tuple_mul_2 _ _) (tuple_mul_none l its.toArray n dd sl k t c0 c1 c2) ⟨ho, ?_⟩⟩)
      have q := q1 hne hk s.heap.objs.size (I.hok.fresh (Nat.le_refl _))
      rw [e0] at q
      refine ⟨.ref s.heap.objs.size, _, I.laid (t' := s.toks) (o := .tup []) (fun b ob q => Heap.get?_push_of_some _ q) (Nat.le_refl _) ?_, rfl, q⟩
      exact ⟨Nat.zero_le _, [], .nil, IsTup.new _ _⟩
    · have c2 : (decide (k ≤ 0) || its.toArray.isEmpty) = false := by
        rw [hi, Bool.or_false]
        exact decide_eq_false hp
      have hm : ((its.toArray.size : Nat) : Int) * k ≤ 16777216 := by
        rw [hsz0]
        have hz' : xs.length * k.toNat ≤ 16777216 := by rw [← sizeLine_eq]; exact hz
        have ek : ((k.toNat : Nat) : Int) = k := by omega
        rw [← ek, ← Int.natCast_mul]
        omega
      have flen : (List.replicate k.toNat its).flatten.length ≤ sizeLine := by
        rw [PyProof.Rows.lm_len_rep_flat, hle, Nat.mul_comm]
        exact hz
      have c4 : Builtin.Tuple.tupleTooMany (((its.toArray.size : Nat) : Int) * k) = false := by
        unfold Builtin.Tuple.tupleTooMany
        rw [sizeLine_eq]
        exact decide_eq_false (by omega)
      refine wpAny_binaryOp_repeat_ref (T := "tuple") (U := "int") (by decide) ⟨_, ho, rfl⟩ (fun s' => typeIs_int s' k t) noFill_tuple_mul F.fills_int_mul F.slot_int_rmul repeat_tuple F.slot_int_index.lookup
        (call_meets F.slot_int_rmul (typeIs_int s k t) F.entry_int_rmul (F.args_int_rmul_2 _ _) (int_rmul_tuple k t l its.toArray n dd sl)
          ⟨ho, rfl, ⟨_, ho, rfl⟩, call_meets F.slot_tuple_mul ⟨_, ho, rfl⟩ F.entry_tuple_mul (F.args_tuple_mul_2 _ _) (tuple_mulW l its.toArray n dd sl k t c0 c1 c2 (by omega) c4 (by rw [size_rep, List.size_toArray]; exact flen)) ⟨ho, ?_⟩⟩)
      rw [size_rep]
      refine ⟨.ref s.heap.objs.size, _, I.laid (t' := s.toks) (o := .tup (List.replicate k.toNat xs).flatten) (fun b ob q => Heap.get?_push_of_some _ q) (Nat.le_refl _) ?_, rfl, q1 hne hk _ (I.hok.fresh (Nat.le_refl _))⟩
      exact ⟨by rw [PyProof.Rows.lm_len_rep_flat, Nat.mul_comm]; exact hz, _, r.rep k.toNat, IsTup.new _ _⟩

section
variable {C : Ct} {F : Fns} {X : Cx} {md : Md} {a b c : Expr} {ma mb mc : E} {pos : Pos}
theorem se_mul (hK : X.K = C.K) (ha : SE C F X .read a ma) (hb : SE C F X .read b mb) : SE C F X md (.BinOp a .Mult b pos) (.bin .mul ma mb) := by
  intro w env σ st d st' Q ok er sr e h
  unfold ev at e
  refine tE_of (pe_op (op_any (rs := [rI CMul fun i j => .int (i * j), rRepA X.K, rRep]) ?_) pe_tE pe_tE) (two ha hb ok er sr e fun x y dx dy w2 st2 x2 s2 r1 r2 e => ?_)
  · intro r hr
    simp only [List.mem_cons, List.mem_nil_iff, or_false] at hr
    rcases hr with rfl | rfl | rfl
    · exact op_mul
    · exact op_repA
    · exact op_rep
  · obtain ⟨eb, rfl⟩ := of_ok e
    have fin : ∀ v w', Ext w2 w' → StR C w' st2 → RM md C w' v d → Q v w'.H := fun v w' x s r => h v w' (x2.trans x) s r
    unfold bin at eb
    split at eb
    all_goals (try cases ‹Op.mul = _›)
    · rename_i i j e1 e2
      split at eb
      · rename_i hf
        cases eb
        refine .inl ⟨i, j, res_int r1 e1, res_int r2 e2, ?_, fin _ _ (Ext.refl x2.ok) s2 ((RV.int _).rm md)⟩
        rcases Bool.or_eq_true_iff.mp hf with z | z
        · exact .inl (inI_bounds z)
        · exact .inr (inI_bounds z)
      · cases eb
    · rename_i xs j e1 e2
      split at eb
      · rename_i hf
        cases eb
        obtain ⟨hb1, hb2⟩ := Bool.and_eq_true_iff.mp hf
        obtain ⟨p, vs, rfl, h1, q1⟩ := res_tup x2.ok r1 e1
        have o1 := old_tup r1 e1
        obtain ⟨b1, b2⟩ := inI_bounds hb1
        refine .inr (.inl ⟨p, j, vs, rfl, res_int r2 e2, by rw [hK]; exact h1, b1, b2, by rw [q1.length]; exact fit_le hb2, fun z => ?_, fun _ _ => new_tup x2.ok s2 (q1.rep _) fin⟩)
        rcases z with z | z
        · subst z
          cases q1
          have e0 : (List.replicate j.toNat ([] : List D)).flatten = [] := by simp
          rw [e0] at fin
          exact fin _ _ (Ext.refl x2.ok) s2 (o1.rm md)
        · subst z
          have e0 : (List.replicate (1 : Int).toNat xs).flatten = xs := by simp
          rw [e0] at fin
          exact fin _ _ (Ext.refl x2.ok) s2 (o1.rm md)
      · cases eb
    · rename_i xs j e1 e2
      split at eb
      · rename_i hf
        cases eb
        obtain ⟨hb1, hb2⟩ := Bool.and_eq_true_iff.mp hf
        obtain ⟨p, vs, rfl, h1, q1⟩ := res_lst x2.ok s2 r1 e1
        obtain ⟨b1, b2⟩ := inI_bounds hb1
        exact .inr (.inr (.inl ⟨p, j, vs, rfl, res_int r2 e2, h1, by omega, by omega, by rw [q1.length]; exact fit_le hb2, new_lst x2.ok s2 (q1.rep _) fin⟩))
      · cases eb
    · cases eb
theorem se_neg (ha : SE C F X .read a ma) : SE C F X md (.UnaryOp .USub a pos) (.neg ma) := by
  intro w env σ st d st' Q ok er sr e h
  unfold ev at e
  obtain ⟨dx, st1, e1, e⟩ := bind_ok e
  obtain ⟨en, rfl⟩ := of_ok e
  refine tE_of (pe_un un_neg pe_tE) (ha w env σ st dx st1 _ ok er sr e1 fun x w1 x1 s1 r1 => ?_)
  cases dx with
  | int i => cases en; exact ⟨i, res_int (st := st1) r1 rfl, h _ _ x1 s1 ((RV.int _).rm md)⟩
  | _ => cases en
theorem se_not (ha : SE C F X .read a ma) : SE C F X md (.UnaryOp .Not a pos) (.not ma) := by
  intro w env σ st d st' Q ok er sr e h
  unfold ev at e
  obtain ⟨dx, st1, e1, e⟩ := bind_ok e
  cases dx with
  | bl b =>
    cases e
    exact tE_of (pe_not pe_tE) (ha w env σ st _ _ _ ok er sr e1 fun x w1 x1 s1 r1 => ⟨b, res_bl (st := st') r1 rfl, h _ _ x1 s1 ((RV.bl _).rm md)⟩)
  | _ => cases e
end
end Mi

set_option Elab.async false
set_option linter.all false
set_option maxRecDepth 100000
set_option maxHeartbeats 1000000
/-! Mi4: comparisons, and, or, tests. -/
namespace Mi
open PySem PySem.Spec PyProof.Rows L2
mutual
def toPy : D → PyData
  | .non => .none
  | .bl b => .bool b
  | .int i => .int i
  | .str x => .str ⟨x.toArray⟩
  | .tup xs => .tuple (toPys xs)
  | .lst xs => .list (toPys xs)
  | .scr xs => .list (toPys xs)
  | _ => .none
def toPys : List D → List PyData
  | [] => []
  | x :: xs => toPy x :: toPys xs
end
theorem toPys_map : ∀ xs : List D, toPys xs = xs.map toPy
  | [] => by rw [toPys]; rfl
  | x :: xs => by rw [toPys, toPys_map xs]; rfl
theorem strbeq (x y : List Nat) : ((⟨x.toArray⟩ : Str) == ⟨y.toArray⟩) = (x == y) := by
  by_cases h : x = y
  · subst h; simp
  · rw [beq_eq_false_iff_ne.mpr h, beq_eq_false_iff_ne.mpr]
    intro z
    apply h
    have := congrArg (fun s : Str => s.cps.toList) z
    simpa using this
mutual
theorem eqv_toPy : ∀ (d e : D), d.plain = true → e.plain = true → PyData.eqv (toPy d) (toPy e) = D.eqv d e
  | .non, e, _, he => by cases e <;> first | rfl | cases he
  | .bl b, e, _, he => by cases e <;> first | rfl | cases he
  | .int i, e, _, he => by cases e <;> first | rfl | cases he
  | .str x, e, _, he => by
    cases e <;> first | rfl | cases he | skip
    rename_i y
    simp only [toPy, PyData.eqv, D.eqv]
    exact strbeq x y
  | .tup xs, e, hd, he => by
    cases e <;> first | rfl | cases he | skip
    rename_i ys
    simp only [toPy, PyData.eqv, D.eqv]
    exact eqvs_toPys xs ys (by simpa [D.plain] using hd) (by simpa [D.plain] using he)
  | .lst xs, e, hd, he => by
    cases e <;> first | rfl | cases he | skip
    all_goals
      rename_i ys
      simp only [toPy, PyData.eqv, D.eqv]
      exact eqvs_toPys xs ys (by simpa [D.plain] using hd) (by simpa [D.plain] using he)
  | .scr xs, e, hd, he => by
    cases e <;> first | rfl | cases he | skip
    all_goals
      rename_i ys
      simp only [toPy, PyData.eqv, D.eqv]
      exact eqvs_toPys xs ys (by simpa [D.plain] using hd) (by simpa [D.plain] using he)
  | .dct _ _, _, hd, _ => by cases hd
  | .dcn _ _, _, hd, _ => by cases hd
  | .rowt _, _, hd, _ => by cases hd
  | .loc _, _, hd, _ => by cases hd
  | .fn _, _, hd, _ => by cases hd
  | .exc _, _, hd, _ => by cases hd
theorem eqvs_toPys : ∀ (xs ys : List D), D.plains xs = true → D.plains ys = true → PyData.eqvAll (toPys xs) (toPys ys) = D.eqvs xs ys
  | [], [], _, _ => rfl
  | [], _ :: _, _, _ => rfl
  | _ :: _, [], _, _ => rfl
  | x :: xs, y :: ys, hx, hy => by
    rw [D.plains] at hx hy
    obtain ⟨a, b⟩ := Bool.and_eq_true_iff.mp hx
    obtain ⟨c, d⟩ := Bool.and_eq_true_iff.mp hy
    simp only [toPys, PyData.eqvAll, D.eqvs]
    rw [eqv_toPy x y a c, eqvs_toPys xs ys b d]
end
mutual
theorem lay_toPy : ∀ (d : D), d.plain = true → (toPy d).canLay0 = true
  | .non, _ => rfl
  | .bl b, _ => rfl
  | .int i, _ => rfl
  | .str x, h => by
    simp only [D.plain, List.all_eq_true] at h
    show PyData.strOk ⟨x.toArray⟩ = true
    unfold PyData.strOk
    simp only [Array.all_eq_true', List.mem_toArray, decide_eq_true_eq]
    intro c hc
    exact Nat.lt_of_lt_of_le (Nat.lt_succ_self _) (Nat.le_of_ble_eq_true (h c hc))
  | .tup xs, h => by simp only [toPy, PyData.canLay0]; exact lays_toPys xs (by simpa [D.plain] using h)
  | .lst xs, h => by simp only [toPy, PyData.canLay0]; exact lays_toPys xs (by simpa [D.plain] using h)
  | .scr xs, h => by simp only [toPy, PyData.canLay0]; exact lays_toPys xs (by simpa [D.plain] using h)
  | .dct _ _, hd => by cases hd
  | .dcn _ _, hd => by cases hd
  | .rowt _, hd => by cases hd
  | .loc _, hd => by cases hd
  | .fn _, hd => by cases hd
  | .exc _, hd => by cases hd
theorem lays_toPys : ∀ (xs : List D), D.plains xs = true → PyData.canLayAll0 (toPys xs) = true
  | [], _ => rfl
  | x :: xs, h => by
    rw [D.plains] at h
    obtain ⟨a, b⟩ := Bool.and_eq_true_iff.mp h
    simp only [toPys, PyData.canLayAll0]
    rw [lay_toPy x a, lays_toPys xs b]; rfl
end
mutual
theorem depth_toPy : ∀ (d : D), (toPy d).depth ≤ d.depth
  | .non => by simp [toPy, PyData.depth]
  | .bl b => by simp [toPy, PyData.depth]
  | .int i => by simp [toPy, PyData.depth]
  | .str x => by simp [toPy, PyData.depth]
  | .tup xs => by
    have := depths_toPys xs
    simp only [toPy, PyData.depth, D.depth]; omega
  | .lst xs => by
    have := depths_toPys xs
    simp only [toPy, PyData.depth, D.depth]; omega
  | .scr xs => by
    have := depths_toPys xs
    simp only [toPy, PyData.depth, D.depth]; omega
  | .dct _ _ => by simp [toPy, PyData.depth]
  | .dcn _ _ => by simp [toPy, PyData.depth]
  | .rowt _ => by simp [toPy, PyData.depth]
  | .loc _ => by simp [toPy, PyData.depth]
  | .fn _ => by simp [toPy, PyData.depth]
  | .exc _ => by simp [toPy, PyData.depth]
theorem depths_toPys : ∀ (xs : List D), PyData.depthAll (toPys xs) ≤ D.depths xs
  | [] => by simp [toPys, PyData.depthAll]
  | x :: xs => by
    have h1 := depth_toPy x
    have h2 := depths_toPys xs
    simp only [toPys, PyData.depthAll, D.depths]
    omega
end
theorem shaped_of {d : D} (h : okData d = true) : SeqAt.shaped (toPy d) = true := by
  unfold okData at h
  obtain ⟨a, b⟩ := Bool.and_eq_true_iff.mp h
  unfold SeqAt.shaped
  rw [lay_toPy d a]
  have h1 := depth_toPy d
  have h2 : d.depth ≤ 60 := Nat.le_of_ble_eq_true b
  simp only [Bool.true_and, decide_eq_true_eq]
  omega
theorem plain_of {d : D} (h : okData d = true) : d.plain = true := (Bool.and_eq_true_iff.mp h).1
mutual
theorem RV.dp {C : Ct} {w : Wd} (ok : Wok w) : ∀ {v : V} {d : D}, RV C w v d → d.plain = true → Dp C.K w.H v (toPy d)
  | _, _, .non, _ => .non
  | _, _, .bl b, _ => .bl b
  | _, _, .int i, _ => .int i
  | _, _, .str x, _ => by
    have := Dp.str (K := C.K) (H := w.H) x
    simpa [toPy] using this
  | _, _, .tup h r, p => by rw [toPy]; exact .tup (SqT.mono' ok.sub h) (RVs.dp ok r (by simpa [D.plain] using p))
  | _, _, .lst h r, p => by rw [toPy]; exact .lst (SqL.of (ok.sub _ _ h)) (RVs.dp ok r (by simpa [D.plain] using p))
  | _, _, .scr h r, p => by rw [toPy]; exact .lst (SqL.mono' ok.sub h) (RVs.dp ok r (by simpa [D.plain] using p))
  | _, _, .dct _ _, p => by cases p
  | _, _, .dcn _ _ _ _, p => by cases p
  | _, _, .rowt _ _ _, p => by cases p
  | _, _, .loc _, p => by cases p
  | _, _, .fn _, p => by cases p
theorem RVs.dp {C : Ct} {w : Wd} (ok : Wok w) : ∀ {vs : List V} {ds : List D}, RVs C w vs ds → D.plains ds = true → DpAll C.K w.H vs (toPys ds)
  | _, _, .nil, _ => .nil
  | _, _, .cons h r, p => by
    rw [D.plains] at p
    obtain ⟨a, b⟩ := Bool.and_eq_true_iff.mp p
    rw [toPys]
    exact .cons (RV.dp ok h a) (RVs.dp ok r b)
end
theorem RT.dp {C : Ct} {w : Wd} {st : Store} {v : V} {d : D} (ok : Wok w) (hs : StR C w st) (r : RT C w v d) (hp : (res st d).plain = true) : Dp C.K w.H v (toPy (res st d)) := by
  cases e : res st d with
  | lst xs =>
    obtain ⟨a, vs, rfl, h1, h2⟩ := res_lst ok hs r e
    rw [e] at hp
    rw [toPy]; exact .lst (SqL.of h1) (RVs.dp ok h2 (by simpa [D.plain] using hp))
  | tup xs => rw [e] at hp; exact (old_tup r e).dp ok hp
  | int i => rw [res_int r e]; exact .int i
  | bl i => rw [res_bl r e]; exact .bl i
  | non => rw [res_non r e]; exact .non
  | str x =>
    obtain ⟨z, rfl, h⟩ := res_str r e
    have := Dp.str (K := C.K) (H := w.H) z
    rw [toPy, ← h]; simpa using this
  | scr xs =>
    obtain ⟨a, vs, rfl, h1, h2⟩ := res_scr ok r e
    rw [e] at hp
    rw [toPy]; exact .lst h1 (RVs.dp ok h2 (by simpa [D.plain] using hp))
  | dct _ _ => rw [e] at hp; cases hp
  | dcn _ _ => rw [e] at hp; cases hp
  | rowt _ => rw [e] at hp; cases hp
  | loc _ => rw [e] at hp; cases hp
  | fn _ => rw [e] at hp; cases hp
  | exc _ => rw [e] at hp; cases hp
end Mi

set_option Elab.async false
set_option linter.all false
set_option maxRecDepth 100000
set_option maxHeartbeats 2000000
/-! MiS: the order of data, sorting. -/
namespace Mi
open PySem PySem.Spec PyProof.Rows L2
mutual
theorem alike_py : ∀ {x y : D}, D.alike x y = true → PySem.W.alike (toPy x) (toPy y) = true
  | .int _, .int _, _ => by simp [toPy, PySem.W.alike]
  | .tup xs, .tup ys, h => by simp only [toPy, PySem.W.alike]; exact alikes_py (xs := xs) (ys := ys) h
  | .lst xs, .lst ys, h => by simp only [toPy, PySem.W.alike]; exact alikes_py (xs := xs) (ys := ys) h
theorem alikes_py : ∀ {xs ys : List D}, D.alikes xs ys = true → PySem.W.alikeAll (toPys xs) (toPys ys) = true
  | [], _, _ => by simp [toPys, PySem.W.alikeAll]
  | _ :: _, [], _ => by simp [toPys, PySem.W.alikeAll]
  | x :: xs, y :: ys, h => by
    rw [D.alikes] at h
    obtain ⟨a, b⟩ := Bool.and_eq_true_iff.mp h
    simp only [toPys, PySem.W.alikeAll]
    rw [alike_py a, alikes_py b]; rfl
end
mutual
theorem ltb_py : ∀ {x y : D}, D.alike x y = true → x.plain = true → y.plain = true → PySem.W.dataLt (toPy x) (toPy y) = D.ltb x y
  | .int i, .int j, _, _, _ => PySem.W.dataLt_int i j
  | .tup xs, .tup ys, h, p, q => by
    show PySem.W.dataLt (.tuple (toPys xs)) (.tuple (toPys ys)) = D.ltbs xs ys
    rw [PySem.W.dataLt_tuple]
    exact ltbs_py (xs := xs) (ys := ys) h (by simpa [D.plain] using p) (by simpa [D.plain] using q)
  | .lst xs, .lst ys, h, p, q => by
    show PySem.W.dataLt (.list (toPys xs)) (.list (toPys ys)) = D.ltbs xs ys
    rw [PySem.W.dataLt_list]
    exact ltbs_py (xs := xs) (ys := ys) h (by simpa [D.plain] using p) (by simpa [D.plain] using q)
theorem ltbs_py : ∀ {xs ys : List D}, D.alikes xs ys = true → D.plains xs = true → D.plains ys = true → PyProof.Rows.lexLt itemOrd (PySem.W.keyToksAll (toPys xs)) (PySem.W.keyToksAll (toPys ys)) = D.ltbs xs ys
  | [], [], _, _, _ => lex_irrefl (O := itemOrd) _
  | [], y :: ys, _, _, _ => lex_diff (O := itemOrd) (x := .inl 0) (y := .inl 1) (by intro z; cases z)
  | x :: xs, [], _, _, _ => lex_diff (O := itemOrd) (x := .inl 1) (y := .inl 0) (by intro z; cases z)
  | x :: xs, y :: ys, h, p, q => by
    rw [D.alikes] at h
    rw [D.plains] at p q
    obtain ⟨a, b⟩ := Bool.and_eq_true_iff.mp h
    obtain ⟨p1, p2⟩ := Bool.and_eq_true_iff.mp p
    obtain ⟨q1, q2⟩ := Bool.and_eq_true_iff.mp q
    simp only [toPys]
    rw [PySem.W.dataLt_cons (alike_py a), eqv_toPy x y p1 q1, ltbs_py b p2 q2, ltb_py a p1 q1]
    rfl
end
mutual
theorem ltb_eq : ∀ {x y : D}, D.alike x y = true → D.ltb x y = false → D.ltb y x = false → x = y
  | .int i, .int j, _, h1, h2 => by
    have h1 : decide (i < j) = false := h1
    have h2 : decide (j < i) = false := h2
    have h1 := of_decide_eq_false h1
    have h2 := of_decide_eq_false h2
    have : i = j := by omega
    rw [this]
  | .tup xs, .tup ys, h, h1, h2 => by rw [ltbs_eq (xs := xs) (ys := ys) h h1 h2]
  | .lst xs, .lst ys, h, h1, h2 => by rw [ltbs_eq (xs := xs) (ys := ys) h h1 h2]
theorem ltbs_eq : ∀ {xs ys : List D}, D.alikes xs ys = true → D.ltbs xs ys = false → D.ltbs ys xs = false → xs = ys
  | [], [], _, _, _ => rfl
  | [], _ :: _, _, h1, _ => by cases h1
  | _ :: _, [], _, _, h2 => by cases h2
  | x :: xs, y :: ys, h, h1, h2 => by
    rw [D.alikes] at h
    obtain ⟨a, b⟩ := Bool.and_eq_true_iff.mp h
    unfold D.ltbs at h1 h2
    by_cases e : D.eqv x y = true
    · have e' : D.eqv y x = true := by rw [← eqv_symm_alike a]; exact e
      rw [if_pos e] at h1
      rw [if_pos e'] at h2
      rw [eqv_alike a e, ltbs_eq b h1 h2]
    · have e' : ¬ D.eqv y x = true := by rw [← eqv_symm_alike a]; exact e
      rw [if_neg e] at h1
      rw [if_neg e'] at h2
      exact absurd (by rw [ltb_eq a h1 h2]; exact eqv_refl_alike (by have := ltb_eq a h1 h2; rw [this] at a; exact a)) e
theorem eqv_alike : ∀ {x y : D}, D.alike x y = true → D.eqv x y = true → x = y
  | .int i, .int j, _, h => by
    have h : (i == j) = true := h
    rw [eq_of_beq h]
  | .tup xs, .tup ys, a, h => by rw [eqvs_alike (xs := xs) (ys := ys) a h]
  | .lst xs, .lst ys, a, h => by rw [eqvs_alike (xs := xs) (ys := ys) a h]
theorem eqvs_alike : ∀ {xs ys : List D}, D.alikes xs ys = true → D.eqvs xs ys = true → xs = ys
  | [], [], _, _ => rfl
  | [], _ :: _, _, h => by cases h
  | _ :: _, [], _, h => by cases h
  | x :: xs, y :: ys, h, e => by
    rw [D.alikes] at h
    rw [D.eqvs] at e
    obtain ⟨a, b⟩ := Bool.and_eq_true_iff.mp h
    obtain ⟨e1, e2⟩ := Bool.and_eq_true_iff.mp e
    rw [eqv_alike a e1, eqvs_alike b e2]
theorem eqv_refl_alike : ∀ {x : D}, D.alike x x = true → D.eqv x x = true
  | .int i, _ => by show (i == i) = true; simp
  | .tup xs, h => eqvs_refl_alike (xs := xs) h
  | .lst xs, h => eqvs_refl_alike (xs := xs) h
theorem eqvs_refl_alike : ∀ {xs : List D}, D.alikes xs xs = true → D.eqvs xs xs = true
  | [], _ => rfl
  | x :: xs, h => by
    rw [D.alikes] at h
    obtain ⟨a, b⟩ := Bool.and_eq_true_iff.mp h
    rw [D.eqvs, eqv_refl_alike a, eqvs_refl_alike b]; rfl
theorem eqv_symm_alike : ∀ {x y : D}, D.alike x y = true → D.eqv x y = D.eqv y x
  | .int i, .int j, _ => by show (i == j) = (j == i); exact Bool.beq_comm
  | .tup xs, .tup ys, h => eqvs_symm_alike (xs := xs) (ys := ys) h
  | .lst xs, .lst ys, h => eqvs_symm_alike (xs := xs) (ys := ys) h
theorem eqvs_symm_alike : ∀ {xs ys : List D}, D.alikes xs ys = true → D.eqvs xs ys = D.eqvs ys xs
  | [], [], _ => rfl
  | [], _ :: _, _ => rfl
  | _ :: _, [], _ => rfl
  | x :: xs, y :: ys, h => by
    rw [D.alikes] at h
    obtain ⟨a, b⟩ := Bool.and_eq_true_iff.mp h
    rw [D.eqvs, D.eqvs, eqv_symm_alike a, eqvs_symm_alike b]
end
/-! ### sorted lists -/
/-- every two can be held one below the other -/
def Alk (xs : List D) : Prop := (∀ x ∈ xs, ∀ y ∈ xs, D.alike x y = true) ∧ ∀ x ∈ xs, x.plain = true
theorem Alk.perm {xs ys : List D} (h : Alk xs) (p : ys.Perm xs) : Alk ys := ⟨fun x hx y hy => h.1 x (p.mem_iff.mp hx) y (p.mem_iff.mp hy), fun x hx => h.2 x (p.mem_iff.mp hx)⟩
theorem Alk.sub {xs ys : List D} (h : Alk xs) (p : ∀ y ∈ ys, y ∈ xs) : Alk ys := ⟨fun x hx y hy => h.1 x (p x hx) y (p y hy), fun x hx => h.2 x (p x hx)⟩
abbrev tk (x : D) := PySem.W.keyToks (toPy x)
theorem ltb_tk {xs : List D} (h : Alk xs) {x y : D} (hx : x ∈ xs) (hy : y ∈ xs) : D.ltb x y = PyProof.Rows.lexLt itemOrd (tk x) (tk y) := (ltb_py (h.1 x hx y hy) (h.2 x hx) (h.2 y hy)).symm
/-- no later one is below an earlier one -/
def Rise (xs : List D) : Prop := xs.Pairwise fun a b => D.ltb b a = false
theorem insD_mem {x y : D} : ∀ {ys : List D}, y ∈ insD x ys ↔ y = x ∨ y ∈ ys
  | [] => by simp [insD]
  | z :: ys => by
    unfold insD
    split
    · rw [List.mem_cons, insD_mem, List.mem_cons]
      constructor
      · rintro (h | h | h)
        · exact .inr (.inl h)
        · exact .inl h
        · exact .inr (.inr h)
      · rintro (h | h | h)
        · exact .inr (.inl h)
        · exact .inl h
        · exact .inr (.inr h)
    · simp
theorem insD_perm (x : D) : ∀ ys : List D, (insD x ys).Perm (x :: ys)
  | [] => List.Perm.refl _
  | z :: ys => by
    unfold insD
    split
    · exact ((insD_perm x ys).cons z).trans (List.Perm.swap x z ys)
    · exact List.Perm.refl _
theorem sortD_perm : ∀ xs : List D, (sortD xs).Perm xs
  | [] => List.Perm.refl _
  | x :: xs => (insD_perm x (sortD xs)).trans ((sortD_perm xs).cons x)
theorem insD_rise {x : D} : ∀ {ys : List D}, Alk (x :: ys) → Rise ys → Rise (insD x ys)
  | [], _, _ => List.pairwise_singleton _ _
  | z :: ys, h, r => by
    obtain ⟨r1, r2⟩ := List.pairwise_cons.mp r
    have mx : x ∈ x :: z :: ys := List.mem_cons_self
    have mz : z ∈ x :: z :: ys := List.mem_cons_of_mem _ List.mem_cons_self
    unfold insD
    split
    · rename_i hz
      refine List.pairwise_cons.mpr ⟨fun y hy => ?_, insD_rise (h.sub fun y hy => by
        rcases List.mem_cons.mp hy with rfl | hy
        · exact List.mem_cons_self
        · exact List.mem_cons_of_mem _ (List.mem_cons_of_mem _ hy)) r2⟩
      rcases insD_mem.mp hy with rfl | hy
      · rw [ltb_tk h mx mz]
        rw [ltb_tk h mz mx] at hz
        cases q : PyProof.Rows.lexLt itemOrd (tk y) (tk z) with
        | false => rfl
        | true =>
          have := lex_trans (O := itemOrd) _ _ _ hz q
          rw [lex_irrefl] at this
          cases this
      · exact r1 y hy
    · rename_i hz
      rw [Bool.not_eq_true] at hz
      refine List.pairwise_cons.mpr ⟨fun y hy => ?_, r⟩
      rcases List.mem_cons.mp hy with rfl | hy
      · exact hz
      · have my : y ∈ x :: z :: ys := List.mem_cons_of_mem _ (List.mem_cons_of_mem _ hy)
        have h1 := r1 y hy
        rw [ltb_tk h my mz] at h1
        rw [ltb_tk h mz mx] at hz
        rw [ltb_tk h my mx]
        cases q : PyProof.Rows.lexLt itemOrd (tk y) (tk x) with
        | false => rfl
        | true =>
          rcases lex_negTrans (O := itemOrd) _ (tk z) _ q with z1 | z1
          · rw [h1] at z1; cases z1
          · rw [hz] at z1; cases z1
theorem sortD_rise : ∀ {xs : List D}, Alk xs → Rise (sortD xs)
  | [], _ => List.Pairwise.nil
  | x :: xs, h => insD_rise (h.perm ((sortD_perm xs).cons x)) (sortD_rise (h.sub fun y hy => List.mem_cons_of_mem _ hy))
theorem rise_eq : ∀ {xs ys : List D}, Alk xs → xs.Perm ys → Rise xs → Rise ys → xs = ys
  | [], ys, _, p, _, _ => p.nil_eq
  | x :: xs, [], _, p, _, _ => by have := p.length_eq; simp at this
  | x :: xs, y :: ys, h, p, r, q => by
    obtain ⟨r1, r2⟩ := List.pairwise_cons.mp r
    obtain ⟨q1, q2⟩ := List.pairwise_cons.mp q
    have e : x = y := by
      have mx : x ∈ y :: ys := p.mem_iff.mp List.mem_cons_self
      have my : y ∈ x :: xs := p.mem_iff.mpr List.mem_cons_self
      rcases List.mem_cons.mp mx with e | mx
      · exact e
      · rcases List.mem_cons.mp my with e | my
        · exact e.symm
        · exact ltb_eq (h.1 x List.mem_cons_self y (List.mem_cons_of_mem _ my)) (q1 x mx) (r1 y my)
    subst e
    rw [rise_eq (h.sub fun z hz => List.mem_cons_of_mem _ hz) (p.cons_inv) r2 q2]
theorem sort_eq {xs ys : List D} (h : Alk xs) (p : ys.Perm xs) (r : Rise ys) : ys = sortD xs := rise_eq (h.perm p) (p.trans (sortD_perm xs).symm) r (sortD_rise h)
theorem alk_of : ∀ {xs : List D}, sortable xs = true → Alk xs ∧ ∀ x ∈ xs, okData x = true
  | [], _ => ⟨⟨(fun x hx => nomatch hx), (fun x hx => nomatch hx)⟩, (fun x hx => nomatch hx)⟩
  | x :: xs, h => by
    unfold sortable at h
    obtain ⟨h, h4⟩ := Bool.and_eq_true_iff.mp h
    obtain ⟨h, h3⟩ := Bool.and_eq_true_iff.mp h
    obtain ⟨h1, h2⟩ := Bool.and_eq_true_iff.mp h
    obtain ⟨⟨i1, i2⟩, i3⟩ := alk_of h4
    have a : ∀ y ∈ xs, D.alike x y = true ∧ D.alike y x = true := fun y hy => Bool.and_eq_true_iff.mp (List.all_eq_true.mp h1 y hy)
    refine ⟨⟨fun y hy z hz => ?_, fun y hy => ?_⟩, fun y hy => ?_⟩
    · rcases List.mem_cons.mp hy with rfl | hy
      · rcases List.mem_cons.mp hz with rfl | hz
        · exact h2
        · exact (a z hz).1
      · rcases List.mem_cons.mp hz with hz | hz
        · rw [hz]; exact (a y hy).2
        · exact i1 y hy z hz
    · rcases List.mem_cons.mp hy with rfl | hy
      · exact plain_of h3
      · exact i2 y hy
    · rcases List.mem_cons.mp hy with rfl | hy
      · exact h3
      · exact i3 y hy
end Mi

set_option Elab.async false
set_option linter.all false
set_option maxRecDepth 100000
set_option maxHeartbeats 2000000
/-! MiS2: sorted(xs) of nested data. -/
namespace Mi
open PySem PySem.Spec PyProof.Rows L2 PySem.W PySem.SeqAt
section
variable {prog : Program} {w : World} {A : Around} {E : Value → Shared → Prop} {s : Shared}
theorem call_tuple_lt {Q : Value → Shared → Prop} {l b : Addr} {items items2 : Array Value} {e r : Nat → Bool} (hl : s.heap.IsTuple l items) (hb : s.heap.IsTuple b items2)
    (he : ∀ j (h1 : j < items.size) (h2 : j < items2.size), EqAt A.in1 s items[j] items2[j] (e j)) (hr : ∀ j (h1 : j < items.size) (h2 : j < items2.size), e j = false → RcLt A.in1 s items[j] items2[j] (r j))
    (h : Q (.bool (firstLt e r (decide (items.size < items2.size)) (List.range (min items.size items2.size)))) s) : wpAny (model prog w) A (call (.builtin "tuple.__lt__") [.ref l, .ref b]) Q E s := by
  obtain ⟨⟨cls, dd, data, sl⟩, ho, hc, n, hd⟩ := id hl
  obtain ⟨⟨cls2, dd2, data2, sl2⟩, ho2, hc2, n2, hd2⟩ := id hb
  simp only at hc hd hc2 hd2
  subst hc hd hc2 hd2
  exact call_meets F.slot_tuple_lt ⟨_, ho, rfl⟩ F.entry_tuple_lt (F.args_tuple_lt_2 _ _) (tuple_ltAt l b items items2 n n2 dd dd2 sl sl2 e r) ⟨ho, ho2, he, hr, h⟩
theorem oneLt_tuples {xs ys : List PyData} {a b : Value} {as bs : List Addr} {Q : Bool → Shared → Prop} (ra : Reads s.heap a (.tuple xs) as) (rb : Reads s.heap b (.tuple ys) bs) (h : alike (.tuple xs) (.tuple ys) = true)
    (hu : A.units + min (PyData.tuple xs).depth (PyData.tuple ys).depth < cLine) (hq : Q (dataLt (.tuple xs) (.tuple ys)) s) : wpAny (model prog w) A (oneLt' true a b) Q E s := by
  have hal : alikeAll xs ys = true := by simpa [alike] using h
  cases ra with
  | @tuple l o vs n _ as₁ h1 h2 h3 h4 =>
    cases rb with
    | @tuple l' o' vs' n' _ bs₁ k1 k2 k3 k4 =>
      have n1 : vs.size = xs.length := by simpa using ReadsAll.length _ _ _ h4
      have n2 : vs'.size = ys.length := by simpa using ReadsAll.length _ _ _ k4
      rw [dataLt_tuple, ← firstLt_toks xs ys hal, ← n1, ← n2] at hq
      rw [oneLt'_eq]
      simp only [if_true]
      refine wpAny_bind (wpAny_cRoomFor (room_here hu) ?_)
      refine wpAny_bind (wpAny_callSpecialIfBound?_slot (T := "tuple") ⟨_, h1, h2⟩ F.slot_tuple_lt (call_tuple_lt (e := pairEq xs ys) (r := fun j => dataLt (xs.getD j .none) (ys.getD j .none)) ⟨_, h1, h2, _, h3⟩ ⟨_, k1, k2, _, k3⟩ (fun j j1 j2 => ?_) (fun j j1 j2 hj => ?_) ?_))
      · have := eqAt_alikeAll xs ys A.in1 s vs.toList vs'.toList _ _ h4 k4 hal (room_in hu) j (by simpa using j1) (by simpa using j2)
        simpa using this
      · have := rcLt_alikeAll xs ys A.in1 s vs.toList vs'.toList _ _ h4 k4 hal (room_in hu) j (by simpa using j1) (by simpa using j2) hj
        simpa using this
      · exact wpAny_truthy_bool hq
theorem mapM_each {α β : Type} {f : α → Sem β} {P : α → β → Prop} : ∀ (l : List α) {Q : List β → Shared → Prop}, (∀ v ∈ l, ∀ (Q' : β → Shared → Prop), (∀ r, P v r → Q' r s) → wpAny (model prog w) A (f v) Q' E s) → (∀ rs, EachIs P l rs → Q rs s) → wpAny (model prog w) A (l.mapM f) Q E s
  | [], _, _, h => by rw [List.mapM_nil]; exact wpAny_pure (h [] .nil)
  | x :: l, Q, hf, h => by
    rw [List.mapM_cons]
    exact wpAny_bind (hf x (.head _) _ fun r hr => wpAny_bind (mapM_each l (Q := fun bs s' => wpAny (model prog w) A (pure (r :: bs)) Q E s') (fun v hv => hf v (.tail _ hv)) fun rs hrs => wpAny_pure (h _ (.cons hr hrs))))
theorem tyT {a : Addr} {items : Array Value} {M : Model} {h : Heap} (t : h.IsTuple a items) : Looks M h (typeOf (.ref a)) (.type "tuple") := by
  obtain ⟨o, ho, hc, n, hd⟩ := t
  exact hc ▸ (Looks.ld ho).andThen .now
/-- tuples, the first of which has no items -/
theorem kind_tup0 {vs : List Value} {Q : SortKind → Shared → Prop} (h2 : 2 ≤ vs.length) (ht : ∀ v ∈ vs, ∃ a items, v = .ref a ∧ s.heap.IsTuple a items) (h0 : ∃ a rest, vs = .ref a :: rest ∧ s.heap.IsTuple a #[]) (h : Q oneType' s) :
    wpAny (model prog w) A (keyKind' vs.toArray) Q E s := by
  obtain ⟨a0, rest, rfl, t0⟩ := h0
  rw [keyKind'_eq, List.mapM_toArray, map_eq_pure_bind]
  refine wpAny_bind (wpAny_bind (mapM_each (P := fun v r => v = .ref a0 → r = none) _ (fun v hv Q' hq => ?_) fun rs hrs => ?_))
  · obtain ⟨a, items, rfl, o, ho, hc, n, hd⟩ := ht v hv
    rw [kas_first_eq]
    have L : Looks (model prog w) s.heap (typeOf (.ref a)) (.type "tuple") := tyT ⟨o, ho, hc, n, hd⟩
    refine wpAny_bind (L.here ?_)
    rw [if_neg (by decide)]
    refine wpAny_bind (listItems_at ho hd (wpAny_pure (hq _ fun e => ?_)))
    cases e
    obtain ⟨o', ho', _, n', hd'⟩ := t0
    rw [ho] at ho'
    cases ho'
    rw [hd] at hd'
    cases hd'
    rfl
  · cases hrs with
    | cons r0 rt =>
      rename_i r rs
      have e0 := r0 rfl
      subst e0
      refine wpAny_pure ?_
      rw [if_neg (by simp), if_neg (by simp)]
      rw [oneTypeOnly'_eq, List.mapM_toArray, map_eq_pure_bind]
      refine wpAny_bind (wpAny_bind (wpAny_bind (kas_mapM (r := Value.type "tuple") _ (fun v hv Q' hq => ?_) (wpAny_pure ?_))))
      · obtain ⟨a, items, rfl, t⟩ := ht v hv
        exact (tyT t).here hq
      have hall : ((List.map (fun _ => Value.type "tuple") (Value.ref a0 :: rest)).toArray.all fun x => x == Value.type "tuple") = true := by
        simp only [List.all_toArray, List.all_map, List.all_eq_true]
        intro _ _
        rfl
      have h0 : (List.map (fun _ => Value.type "tuple") (Value.ref a0 :: rest)).toArray[0]? = some (Value.type "tuple") := by simp
      rw [h0]
      simp only [hall, if_true]
      exact wpAny_pure (wpAny_pure h)
theorem SortsAt.tup0 {vs : List Value} {ds : List PyData} (e : EachIs (fun v d => ∃ as, Reads s.heap v d as) vs ds) (hal : AllAlike ds) (h0 : ∃ rest, ds = .tuple [] :: rest) (ht : ∀ d ∈ ds, ∃ xs, d = .tuple xs) (hu : ∀ d, d ∈ ds → A.units + d.depth < cLine) : SortsAt prog w A s (dataKind s.heap ds) vs := by
  have room : ∀ {d d' : PyData}, d ∈ ds → A.units + min d.depth d'.depth < cLine := fun {d d'} hd => Nat.lt_of_le_of_lt (Nat.add_le_add_left (Nat.min_le_left _ _) _) (hu d hd)
  have isT : ∀ {v : Value} {xs : List PyData} {as : List Addr}, Reads s.heap v (.tuple xs) as → ∃ a items, v = .ref a ∧ s.heap.IsTuple a items ∧ items.size = xs.length := fun {v xs as} r => by
    cases r with
    | @tuple a o us n _ _ h1 h2 h3 h4 => exact ⟨a, us, rfl, ⟨o, h1, h2, n, h3⟩, by simpa using ReadsAll.length _ _ _ h4⟩
  refine ⟨fun v hv => ?_, oneType', ?_, fun h2 E Q hq => ?_⟩
  · obtain ⟨d, hd, as, r⟩ := e.left v hv
    exact ⟨_, dataKind_some hal hd r⟩
  · intro E x y a b Q ha hb hq
    obtain ⟨d, as, hd, ra, rfl⟩ := dataKind_inv ha
    obtain ⟨d', as', hd', rb, rfl⟩ := dataKind_inv hb
    rw [keyLt'_oneType]
    have hr := room (d := d) (d' := d') hd
    have hal' := hal d hd d' hd'
    obtain ⟨xs, rfl⟩ := ht d hd
    obtain ⟨ys, rfl⟩ := ht d' hd'
    exact oneLt_tuples ra rb hal' hr hq
  · refine kind_tup0 h2 (fun v hv => ?_) ?_ hq
    · obtain ⟨d, hd, as, r⟩ := e.left v hv
      obtain ⟨xs, rfl⟩ := ht d hd
      obtain ⟨a, items, ea, t, _⟩ := isT r
      exact ⟨a, items, ea, t⟩
    · obtain ⟨rest, rfl⟩ := h0
      cases e with
      | cons h1 h2' =>
        obtain ⟨as, r⟩ := h1
        obtain ⟨a, items, rfl, t, sz⟩ := isT r
        have : items = #[] := Array.eq_empty_of_size_eq_zero sz
        subst this
        exact ⟨a, _, rfl, t⟩
end
/-! ### the rule -/
def cls3 (ds : List D) : Prop := (∀ d ∈ ds, ∃ x xs, d = .tup (x :: xs)) ∨ (∀ d ∈ ds, isTup d = false) ∨ ((∃ rest, ds = .tup [] :: rest) ∧ ∀ d ∈ ds, ∃ xs, d = .tup xs)
theorem cls_of {ds : List D} (h : sortCl ds = true) : cls3 ds := by
  cases ds with
  | nil => exact .inl fun d hd => nomatch hd
  | cons d ds =>
    have h : (if isTup d then (if isTup0 d then ds.all isTup else ds.all isTup1) else ds.all fun y => !isTup y) = true := h
    by_cases h1 : isTup d = true
    · rw [if_pos h1] at h
      have ⟨xs, ed⟩ : ∃ xs, d = .tup xs := by cases d <;> first | exact ⟨_, rfl⟩ | cases h1
      subst ed
      cases xs with
      | nil =>
        have h : ds.all isTup = true := h
        refine .inr (.inr ⟨⟨ds, rfl⟩, fun e he => ?_⟩)
        rcases List.mem_cons.mp he with rfl | he
        · exact ⟨[], rfl⟩
        · have := List.all_eq_true.mp h e he
          match e, this with
          | .tup ys, _ => exact ⟨ys, rfl⟩
      | cons x xs =>
        have h : ds.all isTup1 = true := h
        refine .inl fun e he => ?_
        rcases List.mem_cons.mp he with rfl | he
        · exact ⟨x, xs, rfl⟩
        · have := List.all_eq_true.mp h e he
          match e, this with
          | .tup (y :: ys), _ => exact ⟨y, ys, rfl⟩
    · rw [if_neg h1] at h
      refine .inr (.inl fun e he => ?_)
      rcases List.mem_cons.mp he with rfl | he
      · exact Bool.not_eq_true _ ▸ h1
      · have := List.all_eq_true.mp h e he
        simpa using this
def encP (p : V × D) : PyData := toPy p.2
def rSortD (K : Frag) : List V → Hp → VK → Prop := fun vs H Q => ∃ (a : Addr) (xs : List V) (ds : List D), vs = [.ref a] ∧ SqL K H a xs ∧ DpAll K H xs (toPys ds) ∧ Alk ds ∧ (∀ d ∈ ds, okData d = true) ∧ cls3 ds ∧
  ∀ ps : List (V × D), ps.Perm (xs.zip ds) → ps.map (·.2) = sortD ds → ∀ p, H p = none → Q (.ref p) (upd H p (.lst (ps.map (·.1))))
theorem dps_len {K : Frag} {H : Hp} : ∀ {xs : List V} {ds : List D}, DpAll K H xs (toPys ds) → xs.length = ds.length
  | [], [], _ => rfl
  | [], _ :: _, h => by cases h
  | _ :: _, [], h => by cases h
  | _ :: xs, d :: ds, h => by
    have h : DpAll K H (_ :: xs) (toPy d :: toPys ds) := h
    cases h with
    | cons _ t => simp [dps_len t]
section
variable {X : Cx}
theorem each_both {pins : List (Addr × Obj)} {σ : L2.St} {H : Hp} {s : Shared} (I : L2.Inv X pins σ H s) : ∀ {xs : List V} {ds : List D} {us : List Value}, DpAll X.K H xs (toPys ds) → Vals xs us → EachIs (fun u (p : V × D) => RelV p.1 u) us (xs.zip ds) ∧ EachIs (fun u p => ∃ as, Reads s.heap u (encP p) as) us (xs.zip ds)
  | [], [], _, _, .nil => ⟨.nil, .nil⟩
  | [], _ :: _, _, h, _ => by cases h
  | _ :: _, [], _, h, _ => by cases h
  | x :: xs, d :: ds, u :: us, h, .cons r t => by
    have h : DpAll X.K H (x :: xs) (toPy d :: toPys ds) := h
    cases h with
    | cons h1 h2 =>
      obtain ⟨i1, i2⟩ := each_both I h2 t
      exact ⟨.cons r i1, .cons (Dp.reads I _ _ _ h1 r) i2⟩
theorem vals_each : ∀ {us : List Value} {ps : List (V × D)}, EachIs (fun u (p : V × D) => RelV p.1 u) us ps → Vals (ps.map (·.1)) us
  | _, _, .nil => .nil
  | _, _, .cons r t => .cons r (vals_each t)
theorem le_tk (a b : V × D) : dataLe false encP a b = !PyProof.Rows.lexLt itemOrd (tk b.2) (tk a.2) := rfl
theorem cr_sortD (hu : X.A.units + 65 < cLine) : CallR X (.builtin "sorted") (rSortD X.K) := by
  intro pins s σ H vs us Q I r h
  obtain ⟨a, xs, ds, rfl, hq, hd, ha, hok, hc, q⟩ := h
  obtain ⟨u, rfl, rx⟩ := r.one
  cases rx
  obtain ⟨its, rv, pl, hz⟩ := I.list hq
  have hlen := dps_len hd
  obtain ⟨e1, e2⟩ := each_both I hd rv
  have hbs : (xs.zip ds).map encP = toPys ds := by
    rw [toPys_map]
    have : (xs.zip ds).map (·.2) = ds := List.map_snd_zip (by omega)
    conv => rhs; rw [← this]
    rw [List.map_map]
    rfl
  have hal : AllAlike ((xs.zip ds).map encP) := by
    rw [hbs, toPys_map]
    intro d hd d' hd'
    obtain ⟨b, hb, rfl⟩ := List.mem_map.mp hd
    obtain ⟨b', hb', rfl⟩ := List.mem_map.mp hd'
    exact alike_py (ha.1 b hb b' hb')
  have hdep : ∀ d ∈ (xs.zip ds).map encP, X.A.in1.in1.units + d.depth < cLine := by
    rw [hbs, toPys_map]
    intro d hd
    obtain ⟨b, hb, rfl⟩ := List.mem_map.mp hd
    have h1 := depth_toPy b
    have h2 : b.depth ≤ 60 := Nat.le_of_ble_eq_true (Bool.and_eq_true_iff.mp (hok b hb)).2
    simp only [Around.in1_units]
    omega
  have e2' : EachIs (fun v b => ∃ as, Reads (sortingHeap (copyHeap s.heap its) (s.heap.objs.size + 1) its) v (encP b) as) its (xs.zip ds) := e2.mono fun _ _ ⟨as, r⟩ => ⟨as, PyProof.Rows.Reads.keeps (fun _ _ => sorting_copy_old) r⟩
  have e3 := each_map (R := fun v d => ∃ as, Reads (sortingHeap (copyHeap s.heap its) (s.heap.objs.size + 1) its) v d as) encP e2'
  have S : SortsAt X.prog X.w X.A.in1.in1 { s with heap := sortingHeap (copyHeap s.heap its) (s.heap.objs.size + 1) its } (dataKind (sortingHeap (copyHeap s.heap its) (s.heap.objs.size + 1) its) ((xs.zip ds).map encP)) its := by
    rcases hc with hc | hc | ⟨⟨rest, hc0⟩, hc⟩
    · refine SortsAt.data (s := { s with heap := sortingHeap (copyHeap s.heap its) (s.heap.objs.size + 1) its }) e3 hal (.inl ?_) hdep
      rw [hbs, toPys_map]
      intro d hd
      obtain ⟨b, hb, rfl⟩ := List.mem_map.mp hd
      obtain ⟨x, xs, rfl⟩ := hc b hb
      exact ⟨toPy x, toPys xs, rfl⟩
    · refine SortsAt.data (s := { s with heap := sortingHeap (copyHeap s.heap its) (s.heap.objs.size + 1) its }) e3 hal (.inr ?_) hdep
      rw [hbs, toPys_map]
      intro d hd
      obtain ⟨b, hb, rfl⟩ := List.mem_map.mp hd
      have h1 := hc b hb
      have h2 := ha.1 b hb b hb
      cases b with
      | int i => exact ⟨(fun z => nomatch z), fun xs z => nomatch z⟩
      | lst xs => exact ⟨(fun z => nomatch z), fun xs z => nomatch z⟩
      | tup xs => cases h1
      | _ => cases h2
    · refine SortsAt.tup0 (s := { s with heap := sortingHeap (copyHeap s.heap its) (s.heap.objs.size + 1) its }) e3 hal ?_ ?_ hdep
      · rw [hbs, hc0]
        exact ⟨toPys rest, rfl⟩
      · rw [hbs, toPys_map]
        intro d hd
        obtain ⟨b, hb, rfl⟩ := List.mem_map.mp hd
        obtain ⟨xs, rfl⟩ := hc b hb
        exact ⟨toPys xs, rfl⟩
  have hb := sortVals_data false e1 e2' hal
  refine sorted_vals pl.isList S (by rw [← rv.length]; exact hz) ?_
  obtain ⟨c, hcc⟩ := sortedAll_at s.heap its (sortVals (dataKind (sortingHeap (copyHeap s.heap its) (s.heap.objs.size + 1) its) ((xs.zip ds).map encP)) false its its).toArray
  have hperm : ((xs.zip ds).mergeSort (dataLe false encP)).Perm (xs.zip ds) := List.mergeSort_perm _ _
  have trans : ∀ (a b c : V × D), dataLe false encP a b = true → dataLe false encP b c = true → dataLe false encP a c = true := by
    intro a b c h1 h2
    rw [le_tk] at h1 h2 ⊢
    cases q : PyProof.Rows.lexLt itemOrd (tk c.2) (tk a.2) with
    | false => rfl
    | true =>
      rcases lex_negTrans (O := itemOrd) _ (tk b.2) _ q with z | z
      · rw [z] at h2; cases h2
      · rw [z] at h1; cases h1
  have total : ∀ (a b : V × D), (dataLe false encP a b || dataLe false encP b a) = true := by
    intro a b
    rw [le_tk, le_tk]
    cases q : PyProof.Rows.lexLt itemOrd (tk b.2) (tk a.2) with
    | false => rfl
    | true =>
      cases q2 : PyProof.Rows.lexLt itemOrd (tk a.2) (tk b.2) with
      | false => rfl
      | true =>
        have := lex_trans (O := itemOrd) _ _ _ q q2
        rw [lex_irrefl] at this
        cases this
  have hpw := List.pairwise_mergeSort trans total (xs.zip ds)
  have hsnd : (xs.zip ds).map (·.2) = ds := List.map_snd_zip (by omega)
  have hsort : ((xs.zip ds).mergeSort (dataLe false encP)).map (·.2) = sortD ds := by
    have hp2 : (((xs.zip ds).mergeSort (dataLe false encP)).map (·.2)).Perm ds := by
      have := hperm.map (·.2)
      rw [hsnd] at this
      exact this
    refine sort_eq ha hp2 ?_
    have hA := ha.perm hp2
    unfold Rise
    rw [List.pairwise_map]
    refine (List.Pairwise.and_mem.mp hpw).imp fun {p q} hpq => ?_
    obtain ⟨m1, m2, hle⟩ := hpq
    rw [le_tk] at hle
    rw [ltb_tk hA (List.mem_map.mpr ⟨q, m2, rfl⟩) (List.mem_map.mpr ⟨p, m1, rfl⟩)]
    simpa using hle
  refine ⟨.ref (s.heap.objs.size + 1), _, I.laid (t' := s.toks) (a := s.heap.objs.size + 1) (o := .lst (((xs.zip ds).mergeSort (dataLe false encP)).map (·.1))) (fun _ _ => sortedAll_old) (Nat.le_succ _) ?_, rfl, q _ hperm hsort _ (I.hok.fresh (Nat.le_succ _))⟩
  refine ⟨?_, _, c, vals_each hb, hcc⟩
  rw [List.length_map, hperm.length_eq, List.length_zip]
  omega
end
end Mi

set_option Elab.async false
set_option linter.all false
set_option maxRecDepth 100000
set_option maxHeartbeats 2000000
/-! MiB: sum and max of tuples. -/
namespace Mi
open PySem PySem.Spec PyProof.Rows L2 PySem.W
section
variable {prog : Program} {w : World} {A : Around} {E : Value → Shared → Prop} {s : Shared} {t : Addr} {its : List Value} {ns : List Int}
theorem sum_rawT {Q : Value → Shared → Prop} (hh : A.handled = none) (ht : s.heap.IsTuple t its.toArray) (hi : IntsAre its ns)
    (h : ∀ h' tk t', (∀ b o, s.heap.get? b = some o → h'.get? b = some o) → Q (.int ns.sum t') { s with heap := h', toks := tk }) : wpAny (model prog w) A (call (.builtin "sum") [.ref t]) Q E s := by
  obtain ⟨xs, hx⟩ := hi.allInts.items
  have hn : numsOf its.toArray.toList = ns := by rw [show its.toArray.toList = its from rfl, hi.numsOf]
  rw [hx] at ht hn
  rw [nums_intItems] at hn
  refine ktm_sumG hh ht fun h' tk t' hk => ?_
  have := h h' tk t' hk
  rw [preSum_eq, List.take_of_length_le (by simp), hn]
  exact this
theorem max_rawT {Q : Value → Shared → Prop} (hh : A.handled = none) (ht : s.heap.IsTuple t its.toArray) (hi : IntsAre its ns) (hne : 0 < ns.length)
    (h : ∀ h' tk M t', (∀ b o, s.heap.get? b = some o → h'.get? b = some o) → M ∈ ns → (∀ a, a ∈ ns → a ≤ M) → Q (.int M t') { s with heap := h', toks := tk }) : wpAny (model prog w) A (call (.builtin "max") [.ref t]) Q E s := by
  obtain ⟨xs, e⟩ := hi.allInts.items
  have hn : numsOf (intItems xs).toList = ns := by rw [← e]; exact hi.numsOf
  rw [nums_intItems] at hn
  subst hn
  rw [e] at ht
  have hsz : 0 < xs.size := by simpa using hne
  obtain ⟨o, ho, hc, n, hd⟩ := id ht
  have hnt : t ≠ s.heap.objs.size := Nat.ne_of_lt (Heap.lt_size ho)
  have hsz2 : (intItems xs).size = xs.size := by simp [intItems]
  have W := Walks.tuple (prog := prog) (w := w) (A := A.in1) hh s.heap.objs.size t hnt (intItems xs)
  refine call_max_walk (wpAny_pyIter_tuple ht ?_)
  refine ⟨s.heap.objs.size, _, _, _, _, _, _, rfl, W, ⟨⟨_, Heap.get?_push_size _ rfl, rfl, rfl⟩, ht.at fun o e => Heap.get?_push_of_some _ e⟩, fun b hb => ?_, by rw [hsz2]; exact hsz, CmpOf.ints_gt (numAt xs) (fun _ _ => intItems_at), fun v h' tk hP hk => ?_⟩
  · rcases List.mem_cons.mp hb with rfl | hb
    · exact Heap.lt_size (Heap.get?_push_size _ rfl)
    · obtain rfl := List.mem_singleton.mp hb
      exact Heap.lt_size (Heap.get?_push_of_some _ ho)
  · rw [hsz2] at hP
    obtain ⟨t', rfl⟩ := intItems_at hP
    obtain ⟨h1, h2⟩ := argBest_gt (numAt xs) (xs.size - 1)
    refine h h' tk _ t' (fun b o e => hk b o (fun hb => absurd (Heap.lt_size e) ((List.mem_singleton.mp hb) ▸ Nat.lt_irrefl _)) (Heap.get?_push_of_some _ e)) ?_ fun a ha => ?_
    · rw [numAt_eq]; exact PySem.getD_mem (by rw [List.length_map, Array.length_toList]; omega)
    · obtain ⟨j, hj, rfl⟩ := mem_getD ha
      rw [List.length_map, Array.length_toList] at hj
      rw [← numAt_eq]; exact h2 j (by omega)
end
section
variable {X : Cx}
def rSumT (K : Frag) : List V → Hp → VK → Prop := fun vs H Q => ∃ (a : Addr) (ns : List Int), vs = [V.ref a] ∧ SqT K H a (ns.map V.int) ∧ Q (.int ns.sum) H
theorem cr_sumT (hc : X.calm = true) : CallR X (.builtin "sum") (rSumT X.K) := by
  intro pins s σ H vs us Q I r h
  obtain ⟨a, ns, rfl, hs, q⟩ := h
  obtain ⟨its, rv, hl, _⟩ := I.tuple hs
  rw [Vals.ref1 r]
  exact sum_rawT (I.ok.hd hc) hl rv.ints fun h' tk t' hk => ⟨.int _, H, I.kept hk, ⟨_, rfl⟩, q⟩
def rMaxT (K : Frag) : List V → Hp → VK → Prop := fun vs H Q => ∃ (a : Addr) (ns : List Int), vs = [V.ref a] ∧ SqT K H a (ns.map V.int) ∧ 0 < ns.length ∧ ∀ m, m ∈ ns → (∀ y, y ∈ ns → y ≤ m) → Q (.int m) H
theorem cr_maxT (hc : X.calm = true) : CallR X (.builtin "max") (rMaxT X.K) := by
  intro pins s σ H vs us Q I r h
  obtain ⟨a, ns, rfl, hs, hne, q⟩ := h
  obtain ⟨its, rv, hl, _⟩ := I.tuple hs
  rw [Vals.ref1 r]
  exact max_rawT (I.ok.hd hc) hl rv.ints hne fun h' tk m t' hk h1 h2 => ⟨.int _, H, I.kept hk, ⟨_, rfl⟩, q m h1 h2⟩
end
/-! ### t[::-1] -/
namespace TR
open HT
section
variable {prog : Program} {w : World} {A : Around} {E : Value → Shared → Prop} {s : Shared}
theorem sliceApplied_rev {sl : Addr} {vl vu vs : Value} {n : Nat} {Q : Int × Int × Nat → Shared → Prop} (hs : s.heap.IsSliceOf sl vl vu vs) (pl : IsPart vl none) (pu : IsPart vu none) (ps : IsPart vs (some (-1)))
    (h : Q ((n : Int) - 1, -1, n) s) : wpAny (model prog w) A (Builtin.Slice.sliceApplied (.ref sl) (pure (n : Int))) Q E s := by
  obtain ⟨os, hos, hcs, hds⟩ := id hs
  unfold Builtin.Slice.sliceApplied Builtin.Slice.sliceFields
  refine wpAny_bind (wpAny_bind (wpAny_field hos hds (x := vl) rfl (wpAny_bind (wpAny_field hos hds (x := vu) rfl (wpAny_bind (wpAny_field hos hds (x := vs) rfl (wpAny_pure ?_)))))))
  refine wpAny_bind (slicePart_ ps ?_)
  show wpAny _ _ (if ((-1 : Int) == 0) = true then _ else _) _ _ s
  rw [if_neg (by decide)]
  refine wpAny_bind (slicePart_ pl (wpAny_bind (slicePart_ pu (wpAny_bind (wpAny_pure ?_)))))
  have h1 : Builtin.Slice.sliceAdjust none none (-1) (n : Int) = ((n : Int) - 1, -1) := by
    unfold Builtin.Slice.sliceAdjust
    simp
  have h2 : Builtin.Slice.slicePlaces ((n : Int) - 1) (-1) (-1) = n := by
    unfold Builtin.Slice.slicePlaces
    have : ¬ ((-1 : Int) > 0) := by omega
    simp only [this, if_false]
    first | (split <;> first | omega | (simp; omega) | simp) | skip
  show wpAny _ _ (match Builtin.Slice.sliceAdjust none none (-1) (n : Int) with | (lo, hi) => pure (lo, (-1 : Int), Builtin.Slice.slicePlaces lo hi (-1))) _ _ s
  rw [h1]
  show wpAny _ _ (pure ((n : Int) - 1, (-1 : Int), Builtin.Slice.slicePlaces ((n : Int) - 1) (-1) (-1))) _ _ s
  rw [h2]
  exact wpAny_pure h
theorem fm_congr {α β : Type} {f g : α → Option β} : ∀ (l : List α), (∀ a ∈ l, f a = g a) → l.filterMap f = l.filterMap g
  | [], _ => rfl
  | a :: l, h => by
    rw [List.filterMap_cons, List.filterMap_cons, h a List.mem_cons_self, fm_congr l fun b hb => h b (List.mem_cons_of_mem _ hb)]
theorem pick_rev (xs : Array Value) : ((List.range xs.size).filterMap fun (m : Nat) => xs[((xs.size : Int) - 1 + (m : Int) * -1).toNat]?).toArray = xs.toList.reverse.toArray := by
  have e1 : ((List.range xs.size).filterMap fun (m : Nat) => xs[((xs.size : Int) - 1 + (m : Int) * -1).toNat]?) = ((List.range xs.size).map fun k => xs.size - 1 - k).filterMap (xs[·]?) := by
    rw [List.filterMap_map]
    refine fm_congr _ fun m hm => ?_
    have : ((xs.size : Int) - 1 + (m : Int) * -1).toNat = xs.size - 1 - m := by omega
    rw [this]
    rfl
  rw [e1, krv_range, List.filterMap_reverse, krv_all]
theorem getItem_tuple_rev {t sl : Addr} {items : Array Value} {vl vu vs : Value} {Q : Value → Shared → Prop} (ht : IsTup s.heap t items) (hs : s.heap.IsSliceOf sl vl vu vs) (pl : IsPart vl none) (pu : IsPart vu none) (ps : IsPart vs (some (-1)))
    (h : Q (.ref s.heap.objs.size) { s with heap := s.heap.push { cls := .type "tuple", data := .seq items.toList.reverse.toArray } }) (hsz : items.size ≤ sizeLine) : wpAny (model prog w) A (getItem (.ref t) (.ref sl)) Q E s := by
  have htake : sizeOk (.seq items.toList.reverse.toArray) := by
    show items.toList.reverse.toArray.size ≤ sizeLine
    rw [List.size_toArray, List.length_reverse, Array.length_toList]
    exact hsz
  obtain ⟨os, hos, hcs, hds⟩ := id hs
  have hTs : s.TypeIs (.ref sl) "slice" := ⟨os, hos, hcs⟩
  unfold getItem
  try with_reducible refine wpAny_holding ?_
  first | refine wpAny_bind (wpAny_pure ?_) | skip
  refine wpAny_bind (wpAny_sequenceKey ht.typeIs (by decide) ?_)
  refine wpAny_bind (wpAny_callSpecial?_slot (name := Str.ofString "__getitem__") ht.typeIs PyProof.Rows.slot_tuple_getitem
    (wpAny_call_entry PyProof.Rows.slot_tuple_getitem ht.typeIs entry_tuple_getitem ?_ (args_tuple_getitem _ _)))
  show wpAny _ _ (Builtin.Tuple.tupleItemsOf (.ref t) >>= _) _ _ s
  refine wpAny_bind (tupleItemsOf_ ht ?_)
  refine wpAny_bind (wpAny_typeOf hTs ?_)
  rw [if_pos (by decide)]
  refine wpAny_bind (sliceApplied_rev hs pl pu ps ?_)
  have hno : ¬ ((((items.size : Int) - 1) == 0 && (-1 : Int) == 1 && items.size == items.size) = true) := by
    intro q
    rw [Bool.and_eq_true, Bool.and_eq_true] at q
    exact absurd q.1.2 (by decide)
  show wpAny _ _ (if (((items.size : Int) - 1) == 0 && (-1 : Int) == 1 && items.size == items.size) = true then _ else _) _ _ s
  rw [if_neg hno, pick_rev]
  first
    | exact wpAny_bind (m := Builtin.Tuple.tupleExact _) (wpAny_newObj_type (wpAny_pure ⟨_, rfl, wpAny_pure h⟩) htake)
    | exact wpAny_bind (m := Builtin.Tuple.tupleExact _) (wpAny_newObj_type (wpAny_bind (wpAny_pure (wpAny_pure ⟨_, rfl, wpAny_pure h⟩))) htake)
    | exact wpAny_bind (wpAny_bind (m := Builtin.Tuple.tupleExact _) (wpAny_newObj_type (wpAny_pure (wpAny_pure ⟨_, rfl, wpAny_pure h⟩)) htake))
    | exact wpAny_bind (wpAny_bind (m := Builtin.Tuple.tupleExact _) (wpAny_newObj_type (wpAny_pure ⟨_, rfl, wpAny_pure h⟩) htake))
end
end TR
def tRevA (K : Frag) (te : TE) : TE := fun σ H Q => te σ H fun x H1 => ∃ a xs, x = .ref a ∧ ((SqL K H1 a xs ∧ ∀ p, H1 p = none → Q (.ref p) (upd H1 p (.lst xs.reverse))) ∨ (SqT K H1 a xs ∧ ∀ p, H1 p = none → Q (.ref p) (upd H1 p (.tup xs.reverse))))
theorem pe_revA {X : Cx} {e : Expr} {te : TE} {k : Nat} {p1 p2 p3 pos : Pos} (he : PE X e te) : PE X (.Subscript e (.Slice none none (some (.UnaryOp .USub (.Constant (.int 1) k p1) p2)) p3) pos) (tRevA X.K te) := by
  refine ⟨fun pins s σ H Q I h => ?_⟩
  refine Subscript_ (thn (he.run pins s σ H _ I h) fun v s1 ⟨x, H1, I1, r1, q1⟩ => ?_)
  obtain ⟨a, xs, ex, q⟩ := q1
  subst ex
  cases r1
  have hst : PO X (some (.UnaryOp .USub (.Constant (.int 1) k p1) p2)) (tPart (tUn (rU fun i => .int (-i)) (tC (.int 1)))) := po_some (pe_un un_neg pe_int)
  refine wpAny_Slice (thn (po_none.run pins s1 σ H1 (fun o H2 => o = none ∧ H2 = H1) I1 ⟨rfl, rfl⟩) fun vl s2 ⟨l, H2, I2, pl, el, e2⟩ => ?_)
  subst el e2
  refine thn (po_none.run pins s2 σ H2 (fun o H3 => o = none ∧ H3 = H2) I2 ⟨rfl, rfl⟩) fun vu s3 ⟨u, H3, I3, pu, eu, e3⟩ => ?_
  subst eu e3
  refine thn (hst.run pins s3 σ H3 (fun o H4 => o = some (-1) ∧ H4 = H3) I3 ⟨1, rfl, -1, rfl, rfl, rfl⟩) fun vs s4 ⟨o, H4, I4, ps, eo, e4⟩ => ?_
  subst eo e4
  have I5 : L2.Inv X pins σ H4 { s4 with heap := s4.heap.push { cls := .type "slice", data := .fields #[vl, vu, vs] } } := I4.kept (t' := s4.toks) fun b ob q => Heap.get?_push_of_some _ q
  show wpAny (model X.prog X.w) X.A (subscriptTail e (.Slice none none (some (.UnaryOp .USub (.Constant (.int 1) k p1) p2)) p3) (.ref a) (.ref s4.heap.objs.size)) (EP X pins σ Q) X.xe { s4 with heap := s4.heap.push { cls := .type "slice", data := .fields #[vl, vu, vs] } }
  rcases q with ⟨hx, q⟩ | ⟨hx, q⟩
  · obtain ⟨its, r, ht, hz⟩ := I5.list hx
    have hlen := r.length
    refine tail_any (ops := [.ref a, .ref s4.heap.objs.size]) ht.isList.typeIs (PySem.slot_list_getitem.lookup) ?_ (by with_unfolding_all rfl)
    refine wpAny_getItem_list_slice ht.isList (Heap.IsSliceOf.new _ vl vu vs) pl pu ps (by decide) ?_ (by rw [List.size_toArray]; omega)
    rw [PySem.W.krv_pick]
    refine ⟨.ref _, _, I5.laid (t' := s4.toks) (o := .lst xs.reverse) (fun b ob q => Heap.get?_push_of_some _ q) (Nat.le_refl _) ?_, rfl, q _ (I5.hok.fresh (Nat.le_refl _))⟩
    exact ⟨by rw [List.length_reverse]; exact hz, _, 0, r.reverse, Heap.get?_push_size _ rfl⟩
  · obtain ⟨its, r, ht, hz⟩ := I5.tuple hx
    have hlen := r.length
    refine tail_any (ops := [.ref a, .ref s4.heap.objs.size]) ht.typeIs (PyProof.Rows.slot_tuple_getitem.lookup) ?_ (by with_unfolding_all rfl)
    refine TR.getItem_tuple_rev ht (Heap.IsSliceOf.new _ vl vu vs) pl pu ps ?_ (by rw [List.size_toArray]; omega)
    refine ⟨.ref _, _, I5.laid (t' := s4.toks) (o := .tup xs.reverse) (fun b ob q => Heap.get?_push_of_some _ q) (Nat.le_refl _) ?_, rfl, q _ (I5.hok.fresh (Nat.le_refl _))⟩
    exact ⟨by rw [List.length_reverse]; exact hz, _, r.reverse, IsTup.new _ _⟩
end Mi

set_option Elab.async false
set_option linter.all false
set_option maxRecDepth 100000
set_option maxHeartbeats 1000000
/-! Mi5: comparisons, and, or, tests, conditional expressions. -/
namespace Mi
open PySem PySem.Spec PyProof.Rows L2
section
variable {C : Ct} {F : Fns} {X : Cx} {md : Md} {a b c : Expr} {ma mb mc : E} {pos : Pos}

/-- the model's comparison does what the small language's does -/
structure CmpOk (C : Ct) (X : Cx) (op : CmpOp) (cm : Cm) (rs : List R2) : Prop where
  ops : ∀ r ∈ rs, OpR X (compareOp op) r
  sound : ∀ (w : Wd) (st : Store) (x y : V) (dx dy d : D) (Q : VK), Wok w → StR C w st → RT C w x dx → RT C w y dy → cmp cm (res st dx) (res st dy) = some d → (∀ b, d = .bl b → Q (.bl b) w.H) → rAny rs x y w.H Q
theorem cmp_bl {cm : Cm} {x y d : D} (h : cmp cm x y = some d) : ∃ b, d = .bl b := by
  unfold cmp at h
  split at h <;> first | (cases h; exact ⟨_, rfl⟩) | (split at h <;> first | (cases h; exact ⟨_, rfl⟩) | cases h) | cases h

theorem ok_eq (hK : X.K = C.K) (hu : X.A.units + 64 < cLine) : CmpOk C X .Eq .eq [rEqD X.K] := by
  refine ⟨fun r hr => by simp only [List.mem_singleton] at hr; subst hr; exact op_eqD hu, fun w st x y dx dy d Q ok hs r1 r2 e h => .inl ?_⟩
  simp only [cmp] at e
  split at e
  · rename_i hc
    obtain ⟨c1, c2⟩ := Bool.and_eq_true_iff.mp hc
    cases e
    refine ⟨_, _, by rw [hK]; exact r1.dp ok hs (plain_of c1), by rw [hK]; exact r2.dp ok hs (plain_of c2), shaped_of c1, shaped_of c2, ?_⟩
    rw [eqv_toPy _ _ (plain_of c1) (plain_of c2)]
    exact h _ rfl
  · cases e
theorem ok_ne (hK : X.K = C.K) (hu : X.A.units + 64 < cLine) : CmpOk C X .NotEq .ne [rNeD X.K] := by
  refine ⟨fun r hr => by simp only [List.mem_singleton] at hr; subst hr; exact op_neD hu, fun w st x y dx dy d Q ok hs r1 r2 e h => .inl ?_⟩
  simp only [cmp] at e
  split at e
  · rename_i hc
    obtain ⟨c1, c2⟩ := Bool.and_eq_true_iff.mp hc
    cases e
    refine ⟨_, _, by rw [hK]; exact r1.dp ok hs (plain_of c1), by rw [hK]; exact r2.dp ok hs (plain_of c2), shaped_of c1, shaped_of c2, ?_⟩
    rw [eqv_toPy _ _ (plain_of c1) (plain_of c2)]
    exact h _ rfl
  · cases e
theorem cmp_int {cm : Cm} {p : Int → Int → Bool} {u v d : D} (hc : ∀ u v, cmp cm u v = match u, v with | .int i, .int j => some (.bl (p i j)) | _, _ => none) (h : cmp cm u v = some d) : ∃ i j, u = .int i ∧ v = .int j ∧ d = .bl (p i j) := by
  rw [hc] at h
  cases u <;> first | cases h | skip
  cases v <;> first | cases h | skip
  exact ⟨_, _, rfl, rfl, rfl⟩
theorem ok_int {op : CmpOp} {cm : Cm} {p : Int → Int → Bool} (ho : OpR X (compareOp op) (rI0 fun i j => .bl (p i j))) (hc : ∀ u v, cmp cm u v = match u, v with | .int i, .int j => some (.bl (p i j)) | _, _ => none) : CmpOk C X op cm [rI0 fun i j => .bl (p i j)] := by
  refine ⟨fun r hr => by simp only [List.mem_singleton] at hr; subst hr; exact ho, fun w st x y dx dy d Q ok hs r1 r2 e h => .inl ?_⟩
  obtain ⟨i, j, e1, e2, rfl⟩ := cmp_int hc e
  exact ⟨i, j, res_int r1 e1, res_int r2 e2, h _ rfl⟩
theorem ok_lt : CmpOk C X .Lt .lt [rI0 fun i j => .bl (decide (i < j))] := ok_int op_lt fun u v => by cases u <;> first | rfl | (cases v <;> rfl)
theorem ok_le : CmpOk C X .LtE .le [rI0 fun i j => .bl (decide (i ≤ j))] := ok_int op_le fun u v => by cases u <;> first | rfl | (cases v <;> rfl)
theorem ok_gt : CmpOk C X .Gt .gt [rI0 fun i j => .bl (decide (j < i))] := ok_int op_gt fun u v => by cases u <;> first | rfl | (cases v <;> rfl)
theorem ok_ge : CmpOk C X .GtE .ge [rI0 fun i j => .bl (decide (j ≤ i))] := ok_int op_ge fun u v => by cases u <;> first | rfl | (cases v <;> rfl)
theorem beq_dec (a b : Bool) : (a == b) = decide (a = b) := by cases a <;> cases b <;> rfl
theorem bne_dec (a b : Bool) : (a != b) = !decide (a = b) := by cases a <;> cases b <;> rfl
theorem res_norow (st : Store) (d : D) (k : List D) : res st d ≠ .rowt k := by
  intro e
  cases d <;> first | cases e | skip
  rename_i n
  have e : (match st[n]? with
    | some (.lst xs) => D.lst xs
    | some (.dct ks vs) => D.dct ks vs
    | some (.dcn ks vs) => D.dcn ks vs
    | _ => D.loc n) = .rowt k := e
  cases q : st[n]? with
  | none => rw [q] at e; cases e
  | some c => rw [q] at e; cases c <;> cases e
/-- what is read is None just where its data is -/
theorem RT.isNon {w : Wd} {st : Store} {v : V} {d : D} (ok : Wok w) (hs : StR C w st) (r : RT C w v d) : (∃ k, res st d = .fn k) ∨ (∃ k, res st d = .loc k) ∨ ((∃ k l, res st d = .dct k l) ∨ ∃ k l, res st d = .dcn k l) ∨ (∃ k, res st d = .exc k) ∨ (decide (v = .non) = match res st d with | .non => true | _ => false) := by
  cases e : res st d with
  | lst xs => obtain ⟨a, vs, rfl, h1, h2⟩ := res_lst ok hs r e; exact .inr (.inr (.inr (.inr rfl)))
  | tup xs => obtain ⟨a, vs, rfl, h1, h2⟩ := res_tup ok r e; exact .inr (.inr (.inr (.inr rfl)))
  | scr xs => obtain ⟨a, vs, rfl, h1, h2⟩ := res_scr ok r e; exact .inr (.inr (.inr (.inr rfl)))
  | int i => rw [res_int r e]; exact .inr (.inr (.inr (.inr rfl)))
  | bl i => rw [res_bl r e]; exact .inr (.inr (.inr (.inr rfl)))
  | non => rw [res_non r e]; exact .inr (.inr (.inr (.inr rfl)))
  | str x => obtain ⟨z, rfl, h⟩ := res_str r e; exact .inr (.inr (.inr (.inr rfl)))
  | dct k l => exact .inr (.inr (.inl (.inl ⟨k, l, rfl⟩)))
  | dcn k l => exact .inr (.inr (.inl (.inr ⟨k, l, rfl⟩)))
  | rowt k => exact absurd e (res_norow st d k)
  | loc k => exact .inr (.inl ⟨k, rfl⟩)
  | fn k => exact .inl ⟨k, rfl⟩
  | exc k => exact .inr (.inr (.inr (.inl ⟨k, rfl⟩)))
theorem ok_is : CmpOk C X .Is .is [fun x y H Q => y = .non ∧ Q (.bl (decide (x = .non))) H, rIsB] := by
  refine ⟨fun r hr => by
    simp only [List.mem_cons, List.mem_nil_iff, or_false] at hr
    rcases hr with rfl | rfl
    · exact op_isN
    · exact op_isBl, fun w st x y dx dy d Q ok hs r1 r2 e h => ?_⟩
  have hz := r1.isNon (st := st) ok hs
  cases ey : res st dy with
  | non =>
    rw [ey] at e
    refine .inl ⟨res_non r2 ey, ?_⟩
    rcases hz with ⟨k, z⟩ | ⟨k, z⟩ | (⟨k, l, z⟩ | ⟨k, l, z⟩) | ⟨k, z⟩ | z
    · rw [z] at e; cases e
    · rw [z] at e; cases e
    · rw [z] at e; cases e
    · rw [z] at e; cases e
    · rw [z] at e; cases e
    · rw [z]
      cases ex : res st dx <;> rw [ex] at e <;> first | cases e | skip
      all_goals (first | exact h _ rfl)
  | bl b =>
    rw [ey] at e
    cases ex : res st dx <;> rw [ex] at e <;> first | cases e | skip
    rename_i a
    refine .inr (.inl ⟨a, b, res_bl r1 ex, res_bl r2 ey, ?_⟩)
    rw [← beq_dec]; exact h _ rfl
  | _ => rw [ey] at e; cases ex : res st dx <;> rw [ex] at e <;> cases e
theorem ok_isnt : CmpOk C X .IsNot .isnt [fun x y H Q => y = .non ∧ Q (.bl (!decide (x = .non))) H, rNotB] := by
  refine ⟨fun r hr => by
    simp only [List.mem_cons, List.mem_nil_iff, or_false] at hr
    rcases hr with rfl | rfl
    · exact op_notN
    · exact op_notBl, fun w st x y dx dy d Q ok hs r1 r2 e h => ?_⟩
  have hz := r1.isNon (st := st) ok hs
  cases ey : res st dy with
  | non =>
    rw [ey] at e
    refine .inl ⟨res_non r2 ey, ?_⟩
    rcases hz with ⟨k, z⟩ | ⟨k, z⟩ | (⟨k, l, z⟩ | ⟨k, l, z⟩) | ⟨k, z⟩ | z
    · rw [z] at e; cases e
    · rw [z] at e; cases e
    · rw [z] at e; cases e
    · rw [z] at e; cases e
    · rw [z] at e; cases e
    · rw [z]
      cases ex : res st dx <;> rw [ex] at e <;> first | cases e | skip
      all_goals (first | exact h _ rfl)
  | bl b =>
    rw [ey] at e
    cases ex : res st dx <;> rw [ex] at e <;> first | cases e | skip
    rename_i a
    refine .inr (.inl ⟨a, b, res_bl r1 ex, res_bl r2 ey, ?_⟩)
    rw [← bne_dec]; exact h _ rfl
  | _ => rw [ey] at e; cases ex : res st dx <;> rw [ex] at e <;> cases e

theorem has_any (x : D) (hx : x.plain = true) : ∀ ys : List D, D.plains ys = true → ((toPys ys).any fun z => PyData.eqv z (toPy x)) = has x ys
  | [], _ => rfl
  | y :: ys, h => by
    rw [D.plains] at h
    obtain ⟨a, b⟩ := Bool.and_eq_true_iff.mp h
    rw [toPys, List.any_cons, has_any x hx ys b, eqv_toPy y x a hx]; rfl
theorem str1 {x : Str} {c : Nat} (h : x.cps.toList = [c]) : x = ⟨#[c]⟩ := by
  have := str_eq h
  rw [this]
def rDIn : R2 := fun x y H Q => ∃ a o, y = .ref a ∧ DGet H a x o ∧ Q (.bl o.isSome) H
def rDNotIn : R2 := fun x y H Q => ∃ a o, y = .ref a ∧ DGet H a x o ∧ Q (.bl (!o.isSome)) H
theorem op_dIn (hu : X.A.units + 65 < cLine) : OpR X (compareOp .In) rDIn := by
  intro pins s σ H x y v u Q I rx ry h
  obtain ⟨a, o, rfl, g, q⟩ := h
  cases ry
  exact d_in (by omega) I g rx fun s' I' => ⟨.bl _, H, I', rfl, q⟩
theorem op_dNotIn (hu : X.A.units + 65 < cLine) : OpR X (compareOp .NotIn) rDNotIn := by
  intro pins s σ H x y v u Q I rx ry h
  obtain ⟨a, o, rfl, g, q⟩ := h
  cases ry
  exact d_notIn (by omega) I g rx fun s' I' => ⟨.bl _, H, I', rfl, q⟩
theorem ok_in (hP : X.prog = C.P) (hW : X.w = C.W) (hK : X.K = C.K) (hu : X.A.units + 65 < cLine) : CmpOk C X .In .inn [rInD X.K, fun x y H Q => ∃ (c : Nat) (z : Str), x = .str ⟨#[c]⟩ ∧ y = .str z ∧ Q (.bl (decide (c ∈ z.cps.toList))) H, rDIn, rInN X] := by
  refine ⟨fun r hr => by
    simp only [List.mem_cons, List.mem_nil_iff, or_false] at hr
    rcases hr with rfl | rfl | rfl | rfl
    · exact op_inD hu
    · exact op_in_sign
    · exact op_dIn hu
    · exact op_inN hu, fun w st x y dx dy d Q ok hs r1 r2 e h => ?_⟩
  cases ey : res st dy with
  | lst ys =>
    rw [ey] at e
    have e2 : (if okData (res st dx) && okData (.lst ys) then some (D.bl (has (res st dx) ys)) else none) = some d := by
      cases ex : res st dx <;> rw [ex] at e <;> exact e
    split at e2
    · rename_i hc
      obtain ⟨c1, c2⟩ := Bool.and_eq_true_iff.mp hc
      cases e2
      have q2 := r2.dp ok hs (by rw [ey]; exact plain_of c2)
      rw [ey, toPy] at q2
      have s2 := shaped_of c2
      rw [toPy] at s2
      refine .inl ⟨_, _, by rw [hK]; exact r1.dp ok hs (plain_of c1), by rw [hK]; exact q2, shaped_of c1, s2, ?_⟩
      have p2 := plain_of c2
      rw [has_any _ (plain_of c1) ys (by simpa [D.plain] using p2)]
      exact h _ rfl
    · cases e2
  | str ys =>
    rw [ey] at e
    cases ex : res st dx <;> rw [ex] at e <;> first | cases e | skip
    rename_i s
    cases s with
    | nil => cases e
    | cons c t =>
      cases t with
      | cons _ _ => cases e
      | nil =>
        cases e
        obtain ⟨z, rfl, hz⟩ := res_str r1 ex
        obtain ⟨z2, rfl, hz2⟩ := res_str r2 ey
        refine .inr (.inl ⟨c, z2, by rw [str1 hz], rfl, ?_⟩)
        rw [hz2]; exact h _ rfl
  | dct ks vs =>
    rw [ey] at e
    cases ex : res st dx <;> rw [ex] at e <;> first | cases e | skip
    all_goals (try (rename_i s; cases s <;> first | cases e | skip))
    all_goals (try (rename_i c t; cases t <;> cases e))
    all_goals
      obtain ⟨a, us, rfl, ⟨kvs, hd, rfl, rfl, _⟩, _⟩ := res_dct ok hs r2 ey
      refine .inr (.inr (.inl ⟨a, _, rfl, by rw [res_int r1 ex]; exact DGet.k (k := .inl _) hd, ?_⟩))
      rw [has_k]
      exact h _ rfl
  | dcn ks vs =>
    rw [ey] at e
    cases ex : res st dx with
    | tup xs =>
      rw [ex] at e
      have e : (if keyOk (.tup xs) then some (D.bl ((has (.tup xs) ks))) else none) = some d := e
      split at e
      · rename_i hk
        cases e
        obtain ⟨a, es, rfl, h1, h2, h3, h4⟩ := res_dcn ok hs r2 ey
        obtain ⟨b, rfl, kb, kd⟩ := key_at ok (old_tup r1 ex) hk
        refine .inr (.inr (.inr (.inl ⟨a, b, es, _, rfl, rfl, ⟨by rw [hP, hW]; exact h1, by rw [hK]; exact keys_at ok h2 h3, by rw [hK]; exact kb, kd⟩, ?_⟩)))
        rw [has_n hk h3]
        exact h _ rfl
      · cases e
    | str s =>
      rw [ex] at e
      cases s with
      | nil => cases e
      | cons c t => cases t <;> cases e
    | _ => rw [ex] at e; cases e
  | _ =>
    rw [ey] at e
    cases ex : res st dx <;> rw [ex] at e <;> first | cases e | skip
    all_goals (rename_i s; cases s <;> first | cases e | skip)
    all_goals (try (rename_i c t; cases t <;> cases e))
theorem ok_nin (hP : X.prog = C.P) (hW : X.w = C.W) (hK : X.K = C.K) (hu : X.A.units + 65 < cLine) : CmpOk C X .NotIn .nin [rNotInD X.K, fun x y H Q => ∃ (c : Nat) (z : Str), x = .str ⟨#[c]⟩ ∧ y = .str z ∧ Q (.bl (!decide (c ∈ z.cps.toList))) H, rDNotIn, rNotInN X] := by
  refine ⟨fun r hr => by
    simp only [List.mem_cons, List.mem_nil_iff, or_false] at hr
    rcases hr with rfl | rfl | rfl | rfl
    · exact op_notInD hu
    · exact op_notIn_sign
    · exact op_dNotIn hu
    · exact op_notInN hu, fun w st x y dx dy d Q ok hs r1 r2 e h => ?_⟩
  cases ey : res st dy with
  | lst ys =>
    rw [ey] at e
    have e2 : (if okData (res st dx) && okData (.lst ys) then some (D.bl (!has (res st dx) ys)) else none) = some d := by
      cases ex : res st dx <;> rw [ex] at e <;> exact e
    split at e2
    · rename_i hc
      obtain ⟨c1, c2⟩ := Bool.and_eq_true_iff.mp hc
      cases e2
      have q2 := r2.dp ok hs (by rw [ey]; exact plain_of c2)
      rw [ey, toPy] at q2
      have s2 := shaped_of c2
      rw [toPy] at s2
      refine .inl ⟨_, _, by rw [hK]; exact r1.dp ok hs (plain_of c1), by rw [hK]; exact q2, shaped_of c1, s2, ?_⟩
      have p2 := plain_of c2
      rw [has_any _ (plain_of c1) ys (by simpa [D.plain] using p2)]
      exact h _ rfl
    · cases e2
  | str ys =>
    rw [ey] at e
    cases ex : res st dx <;> rw [ex] at e <;> first | cases e | skip
    rename_i s
    cases s with
    | nil => cases e
    | cons c t =>
      cases t with
      | cons _ _ => cases e
      | nil =>
        cases e
        obtain ⟨z, rfl, hz⟩ := res_str r1 ex
        obtain ⟨z2, rfl, hz2⟩ := res_str r2 ey
        refine .inr (.inl ⟨c, z2, by rw [str1 hz], rfl, ?_⟩)
        rw [hz2]; exact h _ rfl
  | dct ks vs =>
    rw [ey] at e
    cases ex : res st dx <;> rw [ex] at e <;> first | cases e | skip
    all_goals (try (rename_i s; cases s <;> first | cases e | skip))
    all_goals (try (rename_i c t; cases t <;> cases e))
    all_goals
      obtain ⟨a, us, rfl, ⟨kvs, hd, rfl, rfl, _⟩, _⟩ := res_dct ok hs r2 ey
      refine .inr (.inr (.inl ⟨a, _, rfl, by rw [res_int r1 ex]; exact DGet.k (k := .inl _) hd, ?_⟩))
      rw [has_k]
      exact h _ rfl
  | dcn ks vs =>
    rw [ey] at e
    cases ex : res st dx with
    | tup xs =>
      rw [ex] at e
      have e : (if keyOk (.tup xs) then some (D.bl (!(has (.tup xs) ks))) else none) = some d := e
      split at e
      · rename_i hk
        cases e
        obtain ⟨a, es, rfl, h1, h2, h3, h4⟩ := res_dcn ok hs r2 ey
        obtain ⟨b, rfl, kb, kd⟩ := key_at ok (old_tup r1 ex) hk
        refine .inr (.inr (.inr (.inl ⟨a, b, es, _, rfl, rfl, ⟨by rw [hP, hW]; exact h1, by rw [hK]; exact keys_at ok h2 h3, by rw [hK]; exact kb, kd⟩, ?_⟩)))
        rw [has_n hk h3]
        exact h _ rfl
      · cases e
    | str s =>
      rw [ex] at e
      cases s with
      | nil => cases e
      | cons c t => cases t <;> cases e
    | _ => rw [ex] at e; cases e
  | _ =>
    rw [ey] at e
    cases ex : res st dx <;> rw [ex] at e <;> first | cases e | skip
    all_goals (rename_i s; cases s <;> first | cases e | skip)
    all_goals (try (rename_i c t; cases t <;> cases e))

/-! ### as expressions and tests -/
variable {op : CmpOp} {cm : Cm} {rs : List R2}
theorem se_cmp (hc : CmpOk C X op cm rs) (ha : SE C F X .read a ma) (hb : SE C F X .read b mb) (hm : behindInMarks op b = false) : SE C F X md (.Compare a [op] [b] pos) (.cmp cm ma mb) := by
  intro w env σ st d st' Q ok er sr e h
  unfold ev at e
  refine tE_of (pe_cmpR (op_any hc.ops) pe_tE pe_tE hm) (two ha hb ok er sr e fun x y dx dy w2 st2 x2 s2 r1 r2 e => ?_)
  obtain ⟨eb, rfl⟩ := of_ok e
  exact hc.sound w2 st2 x y dx dy d Q x2.ok s2 r1 r2 eb fun b eb => by
    subst eb
    exact h _ _ x2 s2 ((RV.bl b).rm md)
theorem st_cmp (hc : CmpOk C X op cm rs) (ha : SE C F X .read a ma) (hb : SE C F X .read b mb) (hm : behindInMarks op b = false) : ST C F X (.Compare a [op] [b] pos) (.cmp cm ma mb) := by
  intro w env σ st d st' Q ok er sr e h _
  unfold ev at e
  refine tT_of (pt_cmpR (op_any hc.ops) pe_tE pe_tE hm) (two ha hb ok er sr e fun x y dx dy w2 st2 x2 s2 r1 r2 e => ?_)
  obtain ⟨eb, rfl⟩ := of_ok e
  exact hc.sound w2 st2 x y dx dy d _ x2.ok s2 r1 r2 eb fun b eb => ⟨b, rfl, h _ _ x2 s2 eb⟩
/-- a < b < c -/
theorem chain_int {cm : Cm} {u v d : D} (hc : cm = .lt ∨ cm = .le ∨ cm = .gt ∨ cm = .ge) (h : cmp cm u v = some d) : ∃ i j, u = .int i ∧ v = .int j := by
  rcases hc with rfl | rfl | rfl | rfl <;> (cases u <;> first | cases h | skip) <;> (cases v <;> first | cases h | skip) <;> exact ⟨_, _, rfl, rfl⟩
theorem chain_go {op' : CmpOp} {cm' : Cm} {p p' : Int → Int → Bool} (h1 : ∀ i j, cmp cm (.int i) (.int j) = some (.bl (p i j))) (h2 : ∀ i j, cmp cm' (.int i) (.int j) = some (.bl (p' i j))) (hc : cm = .lt ∨ cm = .le ∨ cm = .gt ∨ cm = .ge) (hc' : cm' = .lt ∨ cm' = .le ∨ cm' = .gt ∨ cm' = .ge)
    (ha : SE C F X .read a ma) (hb : SE C F X .read b mb) (hcc : SE C F X .read c mc) {w : Wd} {env : Env} {σ : Slots} {st st' : Store} {d : D} (ok : Wok w) (er : EnvR C w env σ) (sr : StR C w st) (e : ev F md (.chain cm cm' ma mb mc) env st = .ok d st') {Q : VK}
    (h : ∀ b w', Ext w w' → StR C w' st' → d = .bl b → Q (.bl b) w'.H) : tChain (rI0 fun i j => .bl (p i j)) (rI0 fun i j => .bl (p' i j)) (tE X a) (tE X b) (tE X c) σ w.H Q := by
  unfold ev at e
  refine two (P := fun x y H2 => (rI0 fun i j => .bl (p i j)) x y H2 fun z H3 => ∃ k, z = .bl k ∧ if k = true then tE X c σ H3 fun z' H4 => (rI0 fun i j => .bl (p' i j)) y z' H4 Q else Q (.bl false) H3) ha hb ok er sr e fun x y dx dy w2 st2 x2 s2 r1 r2 e => ?_
  cases q : cmp cm dx dy with
  | none => rw [q] at e; cases e
  | some z =>
    rw [q] at e
    obtain ⟨i, j, rfl, rfl⟩ := chain_int hc q
    rw [h1 i j] at q
    cases q
    refine ⟨i, j, res_int (st := st2) r1 rfl, res_int (st := st2) r2 rfl, p i j, rfl, ?_⟩
    cases hp : p i j with
    | true =>
      rw [hp] at e
      rw [if_pos rfl]
      obtain ⟨dz, st3, e3, e⟩ := bind_ok (show ((ev F .read mc env st2).bind fun z st => R.of (cmp cm' (.int j) z) st) = .ok d st' from e)
      obtain ⟨eo, rfl⟩ := of_ok e
      refine hcc w2 env σ st2 dz st3 _ x2.ok (er.ext x2) s2 e3 fun z w3 x3 s3 r3 => ?_
      obtain ⟨j', k, ej, rfl⟩ := chain_int hc' eo
      cases ej
      rw [h2 j k] at eo
      cases eo
      exact ⟨j, k, res_int (st := st3) r2 rfl, res_int (st := st3) r3 rfl, h _ _ (x2.trans x3) s3 rfl⟩
    | false =>
      rw [hp] at e
      rw [if_neg (by decide)]
      cases e
      exact h _ _ x2 s2 rfl

/-! ### and, or, not, conditional expressions -/
theorem se_and1 {rest : List Expr} {bop : BoolOp} (h : SE C F X md a ma) : SE C F X md (.BoolOp bop [a] pos) ma := fun w env σ st d st' Q ok er sr e hq => tE_of (pe_one pe_tE) (h w env σ st d st' Q ok er sr e hq)
theorem se_and {rest : List Expr} (ha : SE C F X .read a ma) (hb : SE C F X .kept (.BoolOp .And (b :: rest) pos) mb) : SE C F X md (.BoolOp .And (a :: b :: rest) pos) (.and ma mb) := by
  intro w env σ st d st' Q ok er sr e h
  unfold ev at e
  obtain ⟨dx, st1, e1, e⟩ := bind_ok e
  refine tE_of (pe_and pe_tE pe_tE) (ha w env σ st dx st1 _ ok er sr e1 fun x w1 x1 s1 r1 => ?_)
  cases dx with
  | bl k =>
    refine ⟨k, res_bl (st := st1) r1 rfl, ?_⟩
    cases k with
    | true =>
      rw [if_pos rfl]
      exact hb w1 env σ st1 d st' _ x1.ok (er.ext x1) s1 e fun v w2 x2 s2 r2 => h v w2 (x1.trans x2) s2 (RV.rm md r2)
    | false =>
      rw [if_neg (by decide)]
      cases e
      exact h _ _ x1 s1 ((RV.bl _).rm md)
  | _ => cases e
theorem se_or {rest : List Expr} (ha : SE C F X .read a ma) (hb : SE C F X .kept (.BoolOp .Or (b :: rest) pos) mb) : SE C F X md (.BoolOp .Or (a :: b :: rest) pos) (.or ma mb) := by
  intro w env σ st d st' Q ok er sr e h
  unfold ev at e
  obtain ⟨dx, st1, e1, e⟩ := bind_ok e
  refine tE_of (pe_or pe_tE pe_tE) (ha w env σ st dx st1 _ ok er sr e1 fun x w1 x1 s1 r1 => ?_)
  cases dx with
  | bl k =>
    refine ⟨k, res_bl (st := st1) r1 rfl, ?_⟩
    cases k with
    | false =>
      rw [if_neg (by decide)]
      exact hb w1 env σ st1 d st' _ x1.ok (er.ext x1) s1 e fun v w2 x2 s2 r2 => h v w2 (x1.trans x2) s2 (RV.rm md r2)
    | true =>
      rw [if_pos rfl]
      cases e
      exact h _ _ x1 s1 ((RV.bl _).rm md)
  | _ => cases e
/-- a test whatever its 'whole' is -/
def SW (C : Ct) (F : Fns) (X : Cx) (e : Expr) (m : E) : Prop := ∀ (w : Wd) (env : Env) (σ : Slots) (st : Store) (d : D) (st' : Store) (Q : Bool → Hp → Prop), Wok w → EnvR C w env σ → StR C w st → ev F .read m env st = .ok d st' →
  (∀ b w', Ext w w' → StR C w' st' → d = .bl b → Q b w'.H) → (∃ b, d = .bl b) → ∀ whole pins s, Inv X pins σ w.H s → wpAny (model X.prog X.w) X.A (isTrue e X.env whole) (TP X pins σ Q) X.xe s
theorem SW.st {e : Expr} {m : E} (h : SW C F X e m) : ST C F X e m := fun w env σ st d st' Q ok er sr ee hq hb pins s I => h w env σ st d st' Q ok er sr ee hq hb _ pins s I
def tW (X : Cx) (e : Expr) : TT := fun σ H Q => ∀ whole pins s, Inv X pins σ H s → wpAny (model X.prog X.w) X.A (isTrue e X.env whole) (TP X pins σ Q) X.xe s
theorem pw_tW {e : Expr} : PW X e (tW X e) := ⟨fun whole pins s σ H Q I h => h whole pins s I⟩
theorem sw_one {bop : BoolOp} (h : ST C F X a ma) : SW C F X (.BoolOp bop [a] pos) ma := by
  intro w env σ st d st' Q ok er sr e hq hb whole pins s I
  cases bop with
  | And => exact (pw_and1 pt_tT).run whole pins s σ w.H Q I (h w env σ st d st' Q ok er sr e hq hb)
  | Or => exact (pw_or1 pt_tT).run whole pins s σ w.H Q I (h w env σ st d st' Q ok er sr e hq hb)
theorem kept_read : ∀ {m : E} {env : Env} {st st' : Store} {d : D}, ev F .kept m env st = .ok d st' → ev F .read m env st = .ok d st' := by
  intro m env st st' d h
  cases m with
  | var i =>
    unfold ev at h ⊢
    cases q : env[i]? with
    | none => rw [q] at h; cases h
    | some s => rw [q] at h; cases s <;> first | exact h | cases h
  | rng es => unfold ev at h; cases h
  | zip es => unfold ev at h; cases h
  | enm es => unfold ev at h; cases h
  | _ => unfold ev at h ⊢; exact h
theorem sw_and {rest : List Expr} (ha : ST C F X a ma) (hb : SW C F X (.BoolOp .And (b :: rest) pos) mb) : SW C F X (.BoolOp .And (a :: b :: rest) pos) (.and ma mb) := by
  intro w env σ st d st' Q ok er sr e h hd whole pins s I
  unfold ev at e
  obtain ⟨dx, st1, e1, e⟩ := bind_ok e
  refine (pw_and pt_tT pw_tW).run whole pins s σ w.H Q I ?_
  cases dx with
  | bl k =>
    refine ha w env σ st _ st1 _ ok er sr e1 (fun b w1 x1 s1 eb => ?_) ⟨k, rfl⟩
    cases eb
    cases k with
    | true =>
      rw [if_pos rfl]
      exact hb w1 env σ st1 d st' _ x1.ok (er.ext x1) s1 (kept_read e) (fun b w2 x2 s2 r2 => h b w2 (x1.trans x2) s2 r2) hd
    | false =>
      rw [if_neg (by decide)]
      cases e
      exact h _ _ x1 s1 rfl
  | _ => cases e
theorem sw_or {rest : List Expr} (ha : ST C F X a ma) (hb : SW C F X (.BoolOp .Or (b :: rest) pos) mb) : SW C F X (.BoolOp .Or (a :: b :: rest) pos) (.or ma mb) := by
  intro w env σ st d st' Q ok er sr e h hd whole pins s I
  unfold ev at e
  obtain ⟨dx, st1, e1, e⟩ := bind_ok e
  refine (pw_or pt_tT pw_tW).run whole pins s σ w.H Q I ?_
  cases dx with
  | bl k =>
    refine ha w env σ st _ st1 _ ok er sr e1 (fun b w1 x1 s1 eb => ?_) ⟨k, rfl⟩
    cases eb
    cases k with
    | false =>
      rw [if_neg (by decide)]
      exact hb w1 env σ st1 d st' _ x1.ok (er.ext x1) s1 (kept_read e) (fun b w2 x2 s2 r2 => h b w2 (x1.trans x2) s2 r2) hd
    | true =>
      rw [if_pos rfl]
      cases e
      exact h _ _ x1 s1 rfl
  | _ => cases e
theorem st_not (ha : ST C F X a ma) : ST C F X (.UnaryOp .Not a pos) (.not ma) := by
  intro w env σ st d st' Q ok er sr e h hd
  unfold ev at e
  obtain ⟨dx, st1, e1, e⟩ := bind_ok e
  cases dx with
  | bl k =>
    cases e
    refine tT_of (pt_not pt_tT) (ha w env σ st _ st' _ ok er sr e1 (fun b w1 x1 s1 eb => ?_) ⟨k, rfl⟩)
    cases eb
    exact h _ _ x1 s1 rfl
  | _ => cases e
/-- any other expression as a test -/
theorem st_val {e : Expr} {m : E} (h1 : SE C F X .read e m) (he : ∀ whole, isTrue e X.env whole = (do let v ← whole; standAt e.pos; holding [v] (truthy v))) : ST C F X e m := by
  intro w env σ st d st' Q ok er sr ee h hd
  refine tT_of (pt_val pe_tE he) (h1 w env σ st d st' _ ok er sr ee fun v w1 x1 s1 r1 => ?_)
  obtain ⟨b, rfl⟩ := hd
  exact ⟨b, res_bl (st := st') r1 rfl, h b w1 x1 s1 rfl⟩
theorem se_ite (ht : ST C F X c mc) (ha : SE C F X .kept a ma) (hb : SE C F X .kept b mb) : SE C F X md (.IfExp c a b pos) (.ite mc ma mb) := by
  intro w env σ st d st' Q ok er sr e h
  unfold ev at e
  obtain ⟨dx, st1, e1, e⟩ := bind_ok e
  cases dx with
  | bl k =>
    refine tE_of (pe_ifExp pt_tT pe_tE pe_tE) (ht w env σ st _ st1 _ ok er sr e1 (fun b' w1 x1 s1 eb => ?_) ⟨k, rfl⟩)
    cases eb
    cases k with
    | true =>
      rw [if_pos rfl]
      exact ha w1 env σ st1 d st' _ x1.ok (er.ext x1) s1 e fun v w2 x2 s2 r2 => h v w2 (x1.trans x2) s2 (RV.rm md r2)
    | false =>
      rw [if_neg (by decide)]
      exact hb w1 env σ st1 d st' _ x1.ok (er.ext x1) s1 e fun v w2 x2 s2 r2 => h v w2 (x1.trans x2) s2 (RV.rm md r2)
  | _ => cases e
end
end Mi

set_option Elab.async false
set_option linter.all false
set_option maxRecDepth 100000
set_option maxHeartbeats 1000000
/-! Mi6: items, slices, built-in calls, isinstance, calls of defs. -/
namespace Mi
open PySem PySem.Spec PyProof.Rows L2
section
variable {C : Ct} {F : Fns} {X : Cx} {md : Md} {a b c : Expr} {ma mb mc : E} {pos : Pos}

/-! ### items -/
def noSlice : Expr → Bool
  | .Slice .. => false
  | _ => true
theorem plain_ix {b : Expr} (h : noSlice b = true) : PlainIx b := fun o i => by cases b <;> first | rfl | cases h
theorem at_of {xs : List D} {i : Int} {d : D} (h : (match ixN xs.length i with | some n => xs[n]? | none => none) = some d) : ∃ n, ixN xs.length i = some n ∧ xs[n]? = some d := by
  cases e : ixN xs.length i with
  | none => rw [e] at h; cases h
  | some n => rw [e] at h; exact ⟨n, rfl, h⟩
theorem at_v {w : Wd} {vs : List V} {xs : List D} {i : Int} {d : D} (r : RVs C w vs xs) (h : (match ixN xs.length i with | some n => xs[n]? | none => none) = some d) : ∃ v, L2.atI vs i = some v ∧ RV C w v d := by
  obtain ⟨n, e, q⟩ := at_of h
  obtain ⟨v, e2, rv⟩ := r.get q
  refine ⟨v, ?_, rv⟩
  unfold L2.atI
  have e3 : L2.ixN vs.length i = some n := by rw [r.length]; exact e
  rw [e3]; exact e2
theorem se_idx (hP : X.prog = C.P) (hW : X.w = C.W) (hu : X.A.units + 65 < cLine) (hK : X.K = C.K) (ha : SE C F X .read a ma) (hb : SE C F X .kept b mb) (hs : noSlice b = true) : SE C F X md (.Subscript a b pos) (.idx ma mb) := by
  intro w env σ st d st' Q ok er sr e h
  unfold ev at e
  obtain ⟨dx, st1, e1, e⟩ := bind_ok e
  obtain ⟨dy, st2, e2, e⟩ := bind_ok e
  obtain ⟨eo, rfl⟩ := of_ok e
  refine tE_of (pe_ix (ix_any (rs := [rIxL X.K, rIxT X.K, rIxD, rIxN X]) ?_) pe_tE pe_tE (plain_ix hs)) (ha w env σ st dx st1 _ ok er sr e1 fun x w1 x1 s1 r1 => hb w1 env σ st1 dy st2 _ x1.ok (er.ext x1) s1 e2 fun y w2 x2 s2 r2 => ?_)
  · intro r hr
    simp only [List.mem_cons, List.mem_nil_iff, or_false] at hr
    rcases hr with rfl | rfl | rfl | rfl
    · exact ix_list
    · exact ix_tup
    · exact ix_dictK hu
    · exact ix_dictN hu
  · have r1 := RT.ext r1 x2
    cases ex : res st2 dx with
    | lst xs =>
      rw [ex] at eo
      cases dy <;> first | cases eo | skip
      rename_i i
      obtain ⟨p, vs, rfl, h1, q1⟩ := res_lst x2.ok s2 r1 ex
      obtain ⟨v, ea, rv⟩ := at_v q1 eo
      exact .inl ⟨p, vs, i, v, rfl, res_int (st := st2) (.inl r2) rfl, SqL.of h1, ea, h v w2 (x1.trans x2) s2 (rv.rm md)⟩
    | scr xs =>
      rw [ex] at eo
      cases dy <;> first | cases eo | skip
      rename_i i
      obtain ⟨p, vs, rfl, h1, q1⟩ := res_scr x2.ok r1 ex
      obtain ⟨v, ea, rv⟩ := at_v q1 eo
      exact .inl ⟨p, vs, i, v, rfl, res_int (st := st2) (.inl r2) rfl, by rw [hK]; exact h1, ea, h v w2 (x1.trans x2) s2 (rv.rm md)⟩
    | tup xs =>
      rw [ex] at eo
      cases dy <;> first | cases eo | skip
      rename_i i
      obtain ⟨p, vs, rfl, h1, q1⟩ := res_tup x2.ok r1 ex
      obtain ⟨v, ea, rv⟩ := at_v q1 eo
      exact .inr (.inl ⟨p, vs, i, v, rfl, res_int (st := st2) (.inl r2) rfl, by rw [hK]; exact h1, ea, h v w2 (x1.trans x2) s2 (rv.rm md)⟩)
    | dct ks xs =>
      rw [ex] at eo
      cases dy <;> first | cases eo | skip
      rename_i i
      obtain ⟨p, us, rfl, ⟨kvs, hd, rfl, rfl, _⟩, q1⟩ := res_dct x2.ok s2 r1 ex
      have eo : look (.int i) (kvs.map fun p => keyD p.1) xs = some d := eo
      rcases look_k i q1 with ⟨v, d', e1, e2, rv⟩ | ⟨_, e2⟩
      · rw [eo] at e2
        cases e2
        refine .inr (.inr (.inl ⟨p, v, rfl, ?_, h v w2 (x1.trans x2) s2 (rv.rm md)⟩))
        rw [res_int (st := st2) (.inl r2) rfl, ← e1]
        exact DGet.k (k := .inl i) hd
      · rw [eo] at e2; cases e2
    | dcn ks xs =>
      rw [ex] at eo
      cases dy <;> first | cases eo | skip
      rename_i ys
      have eo : (if keyOk (.tup ys) then look (.tup ys) ks xs else none) = some d := eo
      split at eo
      · rename_i hk
        obtain ⟨p, es, rfl, h1, h2, h3, h4⟩ := res_dcn x2.ok s2 r1 ex
        obtain ⟨b, rfl, kb, kd⟩ := key_at x2.ok r2 hk
        rcases look_n hk h3 h4 with ⟨v, d', e1, e2, rv⟩ | ⟨_, e2⟩
        · rw [eo] at e2
          cases e2
          exact .inr (.inr (.inr (.inl ⟨p, b, es, _, v, rfl, rfl, ⟨by rw [hP, hW]; exact h1, by rw [hK]; exact keys_at x2.ok h2 h3, by rw [hK]; exact kb, kd⟩, e1, h v w2 (x1.trans x2) s2 (rv.rm md)⟩)))
        · rw [eo] at e2; cases e2
      · cases eo
    | _ => rw [ex] at eo; cases eo
/-- d.get(k, x) -/
theorem se_getd {o e f : Expr} {mo me mf : E} {apos cpos : Pos} (hP : X.prog = C.P) (hW : X.w = C.W) (hu : X.A.units + 65 < cLine) (hK : X.K = C.K) (ho : SE C F X .read o mo) (he : SE C F X .kept e me) (hf : SE C F X .kept f mf) (m : M2 X o "get" apos e f cpos) : SE C F X md (.Call (.Attribute o "get" apos) [e, f] [] cpos) (.getd mo me mf) := by
  intro w env σ st d st' Q ok er sr ee h
  unfold ev at ee
  obtain ⟨dx, st1, e1, ee⟩ := bind_ok ee
  cases ex : res st1 dx with
  | dcn ks0 xs0 =>
    rw [ex] at ee
    obtain ⟨dk, st2, e2, ee⟩ := bind_ok ee
    obtain ⟨dz, st3, e3, ee⟩ := bind_ok ee
    refine tE_of (pe_nget2 hu pe_tE pe_tE pe_tE m) (ho w env σ st dx st1 _ ok er sr e1 fun x w1 x1 s1 r1 => ?_)
    obtain ⟨a, es0, rfl, g1, _⟩ := res_dcn x1.ok s1 r1 ex
    refine ⟨a, es0, rfl, by rw [hP, hW]; exact g1, he w1 env σ st1 dk st2 _ x1.ok (er.ext x1) s1 e2 fun y w2 x2 s2 r2 => hf w2 env σ st2 dz st3 _ x2.ok ((er.ext x1).ext x2) s2 e3 fun z w3 x3 s3 r3 => ?_⟩
    have r1 : RT C w3 (.ref a) dx := RT.ext (RT.ext r1 x2) x3
    have r2 : RV C w3 y dk := RV.ext r2 x3
    have r3 : RV C w3 z dz := r3
    cases ex3 : res st3 dx with
    | dcn ks xs =>
      rw [ex3] at ee
      have ee : (if keyOk dk then R.ok ((look dk ks xs).getD dz) st3 else .bad) = .ok d st' := ee
      split at ee
      · rename_i hk
        cases ee
        obtain ⟨a', es, ea, h1, h2, h3, h4⟩ := res_dcn x3.ok s3 r1 ex3
        cases ea
        obtain ⟨b, rfl, kb, kd⟩ := key_at x3.ok r2 hk
        refine ⟨b, es, _, rfl, ⟨by rw [hP, hW]; exact h1, by rw [hK]; exact keys_at x3.ok h2 h3, by rw [hK]; exact kb, kd⟩, ?_⟩
        rcases look_n hk h3 h4 with ⟨v, d', q1, q2, rv⟩ | ⟨q1, q2⟩
        · rw [q1]
          rw [q2] at h
          exact h v w3 ((x1.trans x2).trans x3) s3 (rv.rm md)
        · rw [q1]
          rw [q2] at h
          exact h z w3 ((x1.trans x2).trans x3) s3 (r3.rm md)
      · cases ee
    | _ => rw [ex3] at ee; cases ee
  | _ => rw [ex] at ee; cases ee

/-! ### slices -/
def tO (X : Cx) (e : Option Expr) : Slots → Hp → (Option Int → Hp → Prop) → Prop := fun σ H Q => ∀ pins s, Inv X pins σ H s → wpAny (model X.prog X.w) X.A (evalPart e X.env) (fun u s' => ∃ o H', Inv X pins σ H' s' ∧ IsPart u o ∧ Q o H') X.xe s
theorem po_tO {e : Option Expr} : PO X e (tO X e) := ⟨fun pins s σ H Q I h => h pins s I⟩
/-- an end of a slice -/
def SO (C : Ct) (F : Fns) (X : Cx) (e : Option Expr) (ms : List E) : Prop := ∀ (w : Wd) (env : Env) (σ : Slots) (st : Store) (ds : List D) (o : Option Int) (st' : Store) (Q : Option Int → Hp → Prop), Wok w → EnvR C w env σ → StR C w st → evs F .kept ms env st = .ok ds st' → optI ds = some o →
  (∀ w', Ext w w' → StR C w' st' → Q o w'.H) → tO X e σ w.H Q
theorem so_none : SO C F X none [] := by
  intro w env σ st ds o st' Q ok er sr e eo h pins s I
  cases e
  cases eo
  exact po_none.run pins s σ w.H Q I (h w (Ext.refl ok) sr)
theorem so_some (ha : SE C F X .kept a ma) : SO C F X (some a) [ma] := by
  intro w env σ st ds o st' Q ok er sr e eo h pins s I
  unfold evs at e
  obtain ⟨d, st1, e1, e⟩ := bind_ok e
  unfold evs at e
  cases e
  have ⟨i, ed⟩ : ∃ i, d = .int i := by cases d <;> first | exact ⟨_, rfl⟩ | cases eo
  subst ed
  cases eo
  refine (po_some pe_tE).run pins s σ w.H Q I (ha w env σ st _ st' _ ok er sr e1 fun x w1 x1 s1 r1 => ⟨i, ?_, h w1 x1 s1⟩)
  cases r1
  rfl
theorem cut_rvs {w : Wd} {vs : List V} {xs : List D} (r : RVs C w vs xs) (lo hi : Option Int) : RVs C w (L2.cutV vs lo hi) (cut xs lo hi) := by
  unfold L2.cutV cut
  have l := r.length
  have e1 : ∀ (d : Nat) (o : Option Int), HT.sIx vs.length d o = sIx xs.length d o := fun d o => by rw [l]; cases o <;> rfl
  rw [e1, e1, l]
  exact (r.drop _).take _
theorem cut_whole {xs : List D} {lo hi : Option Int} (h1 : sIx xs.length 0 lo = 0) (h2 : sIx xs.length xs.length hi = xs.length) : cut xs lo hi = xs := by
  unfold cut
  rw [h1, h2]
  simp
theorem se_slc {lo hi : Option Expr} {ml mh : List E} {p2 : Pos} (hK : X.K = C.K) (ha : SE C F X .read a ma) (hl : SO C F X lo ml) (hh : SO C F X hi mh) : SE C F X md (.Subscript a (.Slice lo hi none p2) pos) (.slc ma ml mh) := by
  intro w env σ st d st' Q ok er sr e h
  unfold ev at e
  obtain ⟨dx, st1, e1, e⟩ := bind_ok e
  obtain ⟨dl, st2, e2, e⟩ := bind_ok e
  obtain ⟨dh, st3, e3, e⟩ := bind_ok e
  obtain ⟨eo, rfl⟩ := of_ok e
  have ⟨l0, h0, el, eh⟩ : ∃ l0 h0, optI dl = some l0 ∧ optI dh = some h0 := by
    cases ex : res st3 dx <;> rw [ex] at eo <;> first | cases eo | skip
    all_goals
      unfold slc at eo
      simp only at eo
      split at eo
      · rename_i l0 h0 q1 q2
        exact ⟨l0, h0, q1, q2⟩
      · cases eo
  refine tE_of (pe_slice (sl_list.or sl_tupA) pe_tE po_tO po_tO) (ha w env σ st dx st1 _ ok er sr e1 fun x w1 x1 s1 r1 => hl w1 env σ st1 dl l0 st2 _ x1.ok (er.ext x1) s1 e2 el fun w2 x2 s2 => hh w2 env σ st2 dh h0 st3 _ x2.ok ((er.ext x1).ext x2) s2 e3 eh fun w3 x3 s3 => ?_)
  have x13 := x1.trans (x2.trans x3)
  have r1 := RT.ext r1 (x2.trans x3)
  have fin : ∀ v w', Ext w3 w' → StR C w' st3 → RM md C w' v d → Q v w'.H := fun v w' x s r => h v w' (x13.trans x) s r
  unfold slc at eo
  cases ex : res st3 dx with
  | lst xs =>
    rw [ex] at eo
    simp only [el, eh] at eo
    cases eo
    obtain ⟨p, vs, rfl, h1, q1⟩ := res_lst x3.ok s3 r1 ex
    exact .inl ⟨p, vs, rfl, SqL.of h1, new_lst x3.ok s3 (cut_rvs q1 l0 h0) fin⟩
  | tup xs =>
    rw [ex] at eo
    simp only [el, eh] at eo
    cases eo
    obtain ⟨p, vs, rfl, h1, q1⟩ := res_tup x3.ok r1 ex
    have l := q1.length
    refine .inr ⟨p, vs, rfl, by rw [hK]; exact h1, fun z => ?_, fun _ => new_tup x3.ok s3 (cut_rvs q1 l0 h0) fin⟩
    rw [l] at z
    have ec : cut xs l0 h0 = xs := cut_whole (by have := z.1; cases l0 <;> exact this) (by have := z.2; cases h0 <;> exact this)
    rw [ec] at fin
    exact fin _ _ (Ext.refl x3.ok) s3 ((old_tup r1 ex).rm md)
  | _ => rw [ex] at eo; cases eo
theorem se_rev {k : Nat} {p1 p2 p3 : Pos} (hK : X.K = C.K) (ha : SE C F X .read a ma) : SE C F X md (.Subscript a (.Slice none none (some (.UnaryOp .USub (.Constant (.int 1) k p1) p2)) p3) pos) (.rev ma) := by
  intro w env σ st d st' Q ok er sr e h
  unfold ev at e
  obtain ⟨dx, st1, e1, e⟩ := bind_ok e
  obtain ⟨eo, rfl⟩ := of_ok e
  refine tE_of (pe_revA pe_tE) (ha w env σ st dx st1 _ ok er sr e1 fun x w1 x1 s1 r1 => ?_)
  cases ex : res st1 dx with
  | lst xs =>
    rw [ex] at eo
    cases eo
    obtain ⟨p, vs, rfl, h1, q1⟩ := res_lst x1.ok s1 r1 ex
    exact ⟨p, vs, rfl, .inl ⟨SqL.of h1, new_lst x1.ok s1 q1.reverse fun v w' x s r => h v w' (x1.trans x) s r⟩⟩
  | tup xs =>
    rw [ex] at eo
    cases eo
    obtain ⟨p, vs, rfl, h1, q1⟩ := res_tup x1.ok r1 ex
    exact ⟨p, vs, rfl, .inr ⟨by rw [hK]; exact h1, new_tup x1.ok s1 q1.reverse fun v w' x s r => h v w' (x1.trans x) s r⟩⟩
  | _ => rw [ex] at eo; cases eo

/-! ### built-in calls -/
/-- what a row of ways to answer a call asks -/
def rCalls : List (List V → Hp → VK → Prop) → List V → Hp → VK → Prop
  | [] => fun _ _ _ => False
  | r :: rs => fun vs H Q => r vs H Q ∨ rCalls rs vs H Q
theorem call_any {f : Value} : ∀ {rs : List (List V → Hp → VK → Prop)}, (∀ r ∈ rs, CallR X f r) → CallR X f (rCalls rs)
  | [], _ => fun _ _ _ _ _ _ _ _ _ h => h.elim
  | r :: rs, h => fun pins s σ H vs us Q I rv q => by
    rcases q with q | q
    · exact h r List.mem_cons_self pins s σ H vs us Q I rv q
    · exact call_any (fun r' hr => h r' (List.mem_cons_of_mem _ hr)) pins s σ H vs us Q I rv q
/-- the built-in x does what the small language's b does -/
structure BiOk (C : Ct) (X : Cx) (f : Value) (b : Bi) (rs : List (List V → Hp → VK → Prop)) : Prop where
  ops : ∀ r ∈ rs, CallR X f r
  sound : ∀ (w : Wd) (st : Store) (vs : List V) (ds : List D) (d : D) (Q : VK), Wok w → StR C w st → vs.length = ds.length → (∀ (i : Nat) (v : V) (d : D), vs[i]? = some v → ds[i]? = some d → RT C w v d) → biF b (ds.map (res st)) = some d →
    (∀ v w', Ext w w' → StR C w' st → RV C w' v d → Q v w'.H) → rCalls rs vs w.H Q
theorem backTo_any (pos : Pos) (l : List (Bool × Sem Value)) : (backTo pos l).any (·.1) = l.any (·.1) := by
  unfold backTo
  rw [List.any_map]
  rfl
theorem star_all {es : List Expr} (h : es.all plainE = true) (env : PySem.Env) : (starEach es env).any (·.1) = false := by
  induction es with
  | nil => rfl
  | cons e es ih =>
    rw [List.all_cons] at h
    obtain ⟨h1, h2⟩ := Bool.and_eq_true_iff.mp h
    rw [star_ok h1, List.any_cons, ih h2]; rfl
theorem se_biB {id : String} {x : Str} {e : Expr} {es : List Expr} {ms : List E} {bi : Bi} {rs : List (List V → Hp → VK → Prop)} {p : Pos} (hb : BiOk C X (.builtin id) bi rs) (hg : Gl X x) (hm : X.mg x = none) (hv : bootBuiltins x = some (.builtin id)) (hn : x ≠ "__name__") (hdb : (x == ("__debug__" : Str)) = false)
    (ha : SA C F X .read (e :: es) ms) (hp : (e :: es).all plainE = true) : SE C F X md (.Call (.Name x p) (e :: es) [] pos) (.bi bi ms) := by
  intro w env σ st d st' Q ok er sr ee h
  unfold ev at ee
  obtain ⟨ds, st1, e1, ee⟩ := bind_ok ee
  obtain ⟨eo, rfl⟩ := of_ok ee
  have hp' := hp
  rw [List.all_cons] at hp'
  obtain ⟨p1, p2⟩ := Bool.and_eq_true_iff.mp hp'
  refine tE_of (pe_callB (call_any hb.ops) hg hm hv pa_tA hn hdb (star_ok p1 _ _) (by rw [backTo_any]; exact star_all p2 _)) (ha w env σ st ds st1 _ ok er sr e1 fun vs w1 x1 s1 l1 r1 => ?_)
  exact hb.sound w1 st1 vs ds d Q x1.ok s1 l1 r1 eo fun v w' x s r => h v w' (x1.trans x) s (r.rm md)
theorem se_biT {T : String} {x : Str} {e : Expr} {es : List Expr} {ms : List E} {bi : Bi} {rs : List (List V → Hp → VK → Prop)} {p : Pos} (hb : BiOk C X (.type T) bi rs) (hg : Gl X x) (hm : X.mg x = none) (hv : bootBuiltins x = some (.type T)) (hn : x ≠ "__name__") (hdb : (x == ("__debug__" : Str)) = false)
    (ha : SA C F X .read (e :: es) ms) (hp : (e :: es).all plainE = true) : SE C F X md (.Call (.Name x p) (e :: es) [] pos) (.bi bi ms) := by
  intro w env σ st d st' Q ok er sr ee h
  unfold ev at ee
  obtain ⟨ds, st1, e1, ee⟩ := bind_ok ee
  obtain ⟨eo, rfl⟩ := of_ok ee
  have hp' := hp
  rw [List.all_cons] at hp'
  obtain ⟨p1, p2⟩ := Bool.and_eq_true_iff.mp hp'
  refine tE_of (pe_callTy (call_any hb.ops) hg hm hv pa_tA hn hdb (star_ok p1 _ _) (by rw [backTo_any]; exact star_all p2 _)) (ha w env σ st ds st1 _ ok er sr e1 fun vs w1 x1 s1 l1 r1 => ?_)
  exact hb.sound w1 st1 vs ds d Q x1.ok s1 l1 r1 eo fun v w' x s r => h v w' (x1.trans x) s (r.rm md)

theorem one1 {w : Wd} {vs : List V} {ds : List D} {st : Store} {u : D} (l : vs.length = ds.length) (r : ∀ (i : Nat) (v : V) (d : D), vs[i]? = some v → ds[i]? = some d → RT C w v d) (e : ds.map (res st) = [u]) : ∃ v d, vs = [v] ∧ RT C w v d ∧ res st d = u := by
  match ds, vs, l with
  | [d], [v], _ => exact ⟨v, d, rfl, r 0 v d rfl rfl, by simpa using e⟩
  | [], _, _ => simp at e
  | _ :: _ :: _, _, _ => simp at e
theorem two2 {w : Wd} {vs : List V} {ds : List D} {st : Store} {u u' : D} (l : vs.length = ds.length) (r : ∀ (i : Nat) (v : V) (d : D), vs[i]? = some v → ds[i]? = some d → RT C w v d) (e : ds.map (res st) = [u, u']) : ∃ v d v' d', vs = [v, v'] ∧ RT C w v d ∧ res st d = u ∧ RT C w v' d' ∧ res st d' = u' := by
  match ds, vs, l with
  | [d, d'], [v, v'], _ =>
    simp at e
    exact ⟨v, d, v', d', rfl, r 0 v d rfl rfl, e.1, r 1 v' d' rfl rfl, e.2⟩
  | [], _, _ => simp at e
  | [_], _, _ => simp at e
  | _ :: _ :: _ :: _, _, _ => simp at e
theorem rvs_bls {w : Wd} : ∀ {vs : List V} {ds : List D} {bs : List Bool}, RVs C w vs ds → asBls ds = some bs → vs = bs.map V.bl
  | _, _, _, .nil, e => by cases e; rfl
  | _, _, bs, .cons h r, e => by
    rename_i v vs d ds
    cases d <;> first | cases e | skip
    rename_i b
    unfold asBls at e
    cases q : asBls ds with
    | none => rw [q] at e; cases e
    | some cs =>
      rw [q] at e
      cases e
      cases h
      rw [rvs_bls r q]; rfl
theorem rvs_ints {w : Wd} : ∀ {vs : List V} {ds : List D} {bs : List Int}, RVs C w vs ds → asInts ds = some bs → vs = bs.map V.int
  | _, _, _, .nil, e => by cases e; rfl
  | _, _, bs, .cons h r, e => by
    rename_i v vs d ds
    cases d <;> first | cases e | skip
    rename_i b
    unfold asInts at e
    cases q : asInts ds with
    | none => rw [q] at e; cases e
    | some cs =>
      rw [q] at e
      cases e
      cases h
      rw [rvs_ints r q]; rfl

theorem bi_len (hK : X.K = C.K) : BiOk C X (.builtin "len") .len [fun xs H Q => ∃ x n, xs = [x] ∧ LenV X.K x H n ∧ Q (.int n) H] := by
  refine ⟨fun r hr => by simp only [List.mem_singleton] at hr; subst hr; exact call_len, fun w st vs ds d Q ok sr l r e h => .inl ?_⟩
  unfold biF at e
  split at e <;> (try contradiction)
  · rename_i xs _ ex
    cases e
    obtain ⟨v, d, rfl, rv, ed⟩ := one1 l r ex
    obtain ⟨a, us, rfl, h1, h2⟩ := res_lst ok sr rv ed
    refine ⟨_, xs.length, rfl, .inl ⟨us, SqL.of h1, h2.length.symm⟩, h _ _ (Ext.refl ok) sr (.int _)⟩
  · rename_i xs _ ex
    cases e
    obtain ⟨v, d, rfl, rv, ed⟩ := one1 l r ex
    obtain ⟨a, us, rfl, h1, h2⟩ := res_tup ok rv ed
    refine ⟨_, xs.length, rfl, .inr ⟨us, by rw [hK]; exact h1, h2.length.symm⟩, h _ _ (Ext.refl ok) sr (.int _)⟩
  · rename_i xs _ ex
    cases e
    obtain ⟨v, d, rfl, rv, ed⟩ := one1 l r ex
    obtain ⟨a, us, rfl, h1, h2⟩ := res_scr ok rv ed
    refine ⟨_, xs.length, rfl, .inl ⟨us, by rw [hK]; exact h1, h2.length.symm⟩, h _ _ (Ext.refl ok) sr (.int _)⟩
  · rename_i xs _ ex
    split at e
    · rename_i hf
      cases e
      obtain ⟨v, d, rfl, rv, ed⟩ := one1 l r ex
      obtain ⟨x, rfl, h1⟩ := res_str rv ed
      have l1 : x.length = xs.length := by rw [← h1]; simp [Str.length]
      refine ⟨_, xs.length, rfl, ⟨by rw [l1]; exact fit_le hf, l1.symm⟩, h _ _ (Ext.refl ok) sr (.int _)⟩
    · cases e

theorem bi_all (hc : X.calm = true) : BiOk C X (.builtin "all") .all [rAll X.K] := by
  refine ⟨fun r hr => by simp only [List.mem_singleton] at hr; subst hr; exact cr_all hc, fun w st vs ds d Q ok sr l r e h => .inl ?_⟩
  unfold biF at e
  split at e <;> (try contradiction)
  rename_i xs _ ex
  obtain ⟨v, d', rfl, rv, ed⟩ := one1 l r ex
  obtain ⟨a, us, rfl, h1, h2⟩ := res_lst ok sr rv ed
  cases q : asBls xs with
  | none => rw [q] at e; cases e
  | some bs =>
    rw [q] at e
    cases e
    have := rvs_bls h2 q
    subst this
    exact ⟨a, bs, rfl, SqL.of h1, h _ _ (Ext.refl ok) sr (.bl _)⟩
theorem bi_any (hc : X.calm = true) : BiOk C X (.builtin "any") .any [L2.rAny X.K] := by
  refine ⟨fun r hr => by simp only [List.mem_singleton] at hr; subst hr; exact cr_any hc, fun w st vs ds d Q ok sr l r e h => .inl ?_⟩
  unfold biF at e
  split at e <;> (try contradiction)
  rename_i xs _ ex
  obtain ⟨v, d', rfl, rv, ed⟩ := one1 l r ex
  obtain ⟨a, us, rfl, h1, h2⟩ := res_lst ok sr rv ed
  cases q : asBls xs with
  | none => rw [q] at e; cases e
  | some bs =>
    rw [q] at e
    cases e
    have := rvs_bls h2 q
    subst this
    exact ⟨a, bs, rfl, SqL.of h1, h _ _ (Ext.refl ok) sr (.bl _)⟩
theorem bi_tuple (hK : X.K = C.K) : BiOk C X (.type "tuple") .tuple [fun xs H Q => ∃ p ys, xs = [.ref p] ∧ ((SqL X.K H p ys ∧ ∀ l, H l = none → Q (.ref l) (upd H l (.tup ys))) ∨ (SqT X.K H p ys ∧ Q (.ref p) H))] := by
  refine ⟨fun r hr => by simp only [List.mem_singleton] at hr; subst hr; exact call_tuple_of, fun w st vs ds d Q ok sr l r e h => .inl ?_⟩
  unfold biF at e
  split at e <;> (try contradiction)
  · rename_i xs _ ex
    obtain ⟨v, d', rfl, rv, ed⟩ := one1 l r ex
    obtain ⟨a, us, rfl, h1, h2⟩ := res_lst ok sr rv ed
    cases e
    exact ⟨a, us, rfl, .inl ⟨SqL.of h1, new_tup (md := .kept) ok sr h2 h⟩⟩
  · rename_i xs _ ex
    obtain ⟨v, d', rfl, rv, ed⟩ := one1 l r ex
    obtain ⟨a, us, rfl, h1, h2⟩ := res_tup ok rv ed
    cases e
    exact ⟨a, us, rfl, .inr ⟨by rw [hK]; exact h1, h _ _ (Ext.refl ok) sr (old_tup rv ed)⟩⟩
theorem bi_list (hP : X.prog = C.P) (hW : X.w = C.W) (hK : X.K = C.K) (hc : X.calm = true) : BiOk C X (.type "list") .list [fun xs H Q => ∃ p ys, xs = [.ref p] ∧ (SqL X.K H p ys ∨ SqT X.K H p ys) ∧ ∀ l, H l = none → Q (.ref l) (upd H l (.lst ys)), fun xs H Q => ∃ d es, xs = [V.ref d] ∧ Rd H d (dN X.prog X.w d es) ∧ ∀ p, H p = none → Q (.ref p) (upd H p (.lst (es.map fun x => V.ref x.2.1)))] := by
  refine ⟨fun r hr => by
    simp only [List.mem_cons, List.mem_nil_iff, or_false] at hr
    rcases hr with rfl | rfl
    · exact call_list_of
    · exact call_list_N hc, fun w st vs ds d Q ok sr l r e h => ?_⟩
  unfold biF at e
  split at e <;> (try contradiction)
  · rename_i xs _ ex
    obtain ⟨v, d', rfl, rv, ed⟩ := one1 l r ex
    obtain ⟨a, us, rfl, h1, h2⟩ := res_lst ok sr rv ed
    cases e
    exact .inl ⟨a, us, rfl, .inl (SqL.of h1), new_lst (md := .kept) ok sr h2 h⟩
  · rename_i xs _ ex
    obtain ⟨v, d', rfl, rv, ed⟩ := one1 l r ex
    obtain ⟨a, us, rfl, h1, h2⟩ := res_tup ok rv ed
    cases e
    exact .inl ⟨a, us, rfl, .inr (by rw [hK]; exact h1), new_lst (md := .kept) ok sr h2 h⟩
  · rename_i ks xs _ ex
    obtain ⟨v, d', rfl, rv, ed⟩ := one1 l r ex
    obtain ⟨a, es, rfl, h1, h2, h3, h4⟩ := res_dcn ok sr rv ed
    cases e
    exact .inr (.inl ⟨a, es, rfl, by rw [hP, hW]; exact h1, new_lst (md := .kept) ok sr h2 h⟩)
theorem rvs_pairs {w : Wd} : ∀ {ps : List (V × D)}, (∀ p ∈ ps, RV C w p.1 p.2) → RVs C w (ps.map (·.1)) (ps.map (·.2))
  | [], _ => .nil
  | p :: ps, h => .cons (h p List.mem_cons_self) (rvs_pairs fun q hq => h q (List.mem_cons_of_mem _ hq))
theorem pairs_rv {w : Wd} : ∀ {vs : List V} {ds : List D}, RVs C w vs ds → ∀ p ∈ vs.zip ds, RV C w p.1 p.2
  | _, _, .nil, p, hp => by simp at hp
  | _, _, .cons h r, p, hp => by
    rw [List.zip_cons_cons] at hp
    rcases List.mem_cons.mp hp with rfl | hp
    · exact h
    · exact pairs_rv r p hp
theorem bi_sorted (hK : X.K = C.K) (hu : X.A.units + 65 < cLine) : BiOk C X (.builtin "sorted") .sorted [rSortD X.K] := by
  refine ⟨fun r hr => by simp only [List.mem_singleton] at hr; subst hr; exact cr_sortD hu, fun w st vs ds d Q ok sr l r e h => .inl ?_⟩
  unfold biF at e
  split at e <;> (try contradiction)
  rename_i xs _ ex
  obtain ⟨v, d', rfl, rv, ed⟩ := one1 l r ex
  obtain ⟨a, us, rfl, h1, h2⟩ := res_lst ok sr rv ed
  split at e <;> (try contradiction)
  rename_i hc
  obtain ⟨c1, c2⟩ := Bool.and_eq_true_iff.mp hc
  obtain ⟨al, ok2⟩ := alk_of c1
  cases e
  have pl : D.plains xs = true := by
    have : ∀ ys : List D, (∀ y ∈ ys, y.plain = true) → D.plains ys = true := by
      intro ys
      induction ys with
      | nil => intro _; rfl
      | cons y ys ih =>
        intro hy
        rw [D.plains, hy y List.mem_cons_self, ih fun z hz => hy z (List.mem_cons_of_mem _ hz)]
        rfl
    exact this xs al.2
  refine ⟨a, us, xs, rfl, SqL.of h1, by rw [hK]; exact RVs.dp ok h2 pl, al, ok2, cls_of c2, fun ps hp hs => ?_⟩
  refine new_lst (md := .kept) (ds := sortD xs) ok sr ?_ h
  rw [← hs]
  exact rvs_pairs fun p hpm => pairs_rv h2 p (hp.mem_iff.mp hpm)
theorem bi_sum (hK : X.K = C.K) (hc : X.calm = true) : BiOk C X (.builtin "sum") .sum [rSum X.K, rSumT X.K] := by
  refine ⟨fun r hr => by
    simp only [List.mem_cons, List.mem_nil_iff, or_false] at hr
    rcases hr with rfl | rfl
    · exact cr_sum hc
    · exact cr_sumT hc, fun w st vs ds d Q ok sr l r e h => ?_⟩
  unfold biF at e
  split at e <;> (try contradiction)
  · rename_i xs _ ex
    obtain ⟨v, d', rfl, rv, ed⟩ := one1 l r ex
    obtain ⟨a, us, rfl, h1, h2⟩ := res_lst ok sr rv ed
    cases q : asInts xs with
    | none => rw [q] at e; cases e
    | some bs =>
      rw [q] at e
      cases e
      have := rvs_ints h2 q
      subst this
      exact .inl ⟨a, bs, rfl, SqL.of h1, h _ _ (Ext.refl ok) sr (.int _)⟩
  · rename_i xs _ ex
    obtain ⟨v, d', rfl, rv, ed⟩ := one1 l r ex
    obtain ⟨a, us, rfl, h1, h2⟩ := res_tup ok rv ed
    cases q : asInts xs with
    | none => rw [q] at e; cases e
    | some bs =>
      rw [q] at e
      cases e
      have := rvs_ints h2 q
      subst this
      exact .inr (.inl ⟨a, bs, rfl, by rw [hK]; exact h1, h _ _ (Ext.refl ok) sr (.int _)⟩)
theorem bi_min (hc : X.calm = true) : BiOk C X (.builtin "min") .min [fun xs H Q => ∃ i j, xs = [.int i, .int j] ∧ Q (.int (if j < i then j else i)) H] := by
  refine ⟨fun r hr => by simp only [List.mem_singleton] at hr; subst hr; exact call_min2 hc, fun w st vs ds d Q ok sr l r e h => .inl ?_⟩
  unfold biF at e
  split at e <;> (try contradiction)
  rename_i i j _ ex
  obtain ⟨v, d', v', d'', rfl, rv, ed, rv', ed'⟩ := two2 l r ex
  cases e
  exact ⟨i, j, by rw [res_int rv ed, res_int rv' ed'], h _ _ (Ext.refl ok) sr (.int _)⟩
theorem maxL_mem (i : Int) : ∀ ns : List Int, maxL i ns ∈ i :: ns
  | [] => by simp [maxL]
  | j :: r => by
    unfold maxL
    split
    · have := maxL_mem j r
      exact List.mem_cons_of_mem _ this
    · have := maxL_mem i r
      rcases List.mem_cons.mp this with z | z
      · rw [z]; exact List.mem_cons_self
      · exact List.mem_cons_of_mem _ (List.mem_cons_of_mem _ z)
theorem maxL_ge (i : Int) : ∀ ns : List Int, (∀ y ∈ i :: ns, y ≤ maxL i ns)
  | [], y, hy => by simp at hy; subst hy; simp [maxL]
  | j :: r, y, hy => by
    unfold maxL
    split
    · rename_i hji
      have h := maxL_ge j r
      rcases List.mem_cons.mp hy with rfl | hy
      · have := h j List.mem_cons_self; omega
      · exact h y hy
    · rename_i hji
      have h := maxL_ge i r
      rcases List.mem_cons.mp hy with rfl | hy
      · exact h _ List.mem_cons_self
      · rcases List.mem_cons.mp hy with rfl | hy
        · have := h i List.mem_cons_self; omega
        · exact h y (List.mem_cons_of_mem _ hy)
theorem bi_max (hK : X.K = C.K) (hc : X.calm = true) : BiOk C X (.builtin "max") .max [fun xs H Q => ∃ i j, xs = [.int i, .int j] ∧ Q (.int (if j > i then j else i)) H, rMax X.K, rMaxT X.K] := by
  refine ⟨fun r hr => by
    simp only [List.mem_cons, List.mem_nil_iff, or_false] at hr
    rcases hr with rfl | rfl | rfl
    · exact call_max2 hc
    · exact cr_max hc
    · exact cr_maxT hc, fun w st vs ds d Q ok sr l r e h => ?_⟩
  unfold biF at e
  split at e <;> (try contradiction)
  · rename_i i j _ ex
    obtain ⟨v, d', v', d'', rfl, rv, ed, rv', ed'⟩ := two2 l r ex
    cases e
    exact .inl ⟨i, j, by rw [res_int rv ed, res_int rv' ed'], h _ _ (Ext.refl ok) sr (.int _)⟩
  · rename_i xs _ ex
    obtain ⟨v, d', rfl, rv, ed⟩ := one1 l r ex
    obtain ⟨a, us, rfl, h1, h2⟩ := res_lst ok sr rv ed
    split at e <;> (try contradiction)
    rename_i i ns q
    cases e
    have := rvs_ints h2 q
    subst this
    refine .inr (.inl ⟨a, i :: ns, rfl, SqL.of h1, by simp, fun m hm hle => ?_⟩)
    have e1 : m = maxL i ns := by
      have a1 := maxL_ge i ns m hm
      have a2 := hle _ (maxL_mem i ns)
      omega
    rw [e1]
    exact h _ _ (Ext.refl ok) sr (.int _)
  · rename_i xs _ ex
    obtain ⟨v, d', rfl, rv, ed⟩ := one1 l r ex
    obtain ⟨a, us, rfl, h1, h2⟩ := res_tup ok rv ed
    split at e <;> (try contradiction)
    rename_i i ns q
    cases e
    have := rvs_ints h2 q
    subst this
    refine .inr (.inr (.inl ⟨a, i :: ns, rfl, by rw [hK]; exact h1, by simp, fun m hm hle => ?_⟩))
    have e1 : m = maxL i ns := by
      have a1 := maxL_ge i ns m hm
      have a2 := hle _ (maxL_mem i ns)
      omega
    subst e1
    exact h _ _ (Ext.refl ok) sr (.int _)
theorem bi_int : BiOk C X (.type "int") .int [fun xs H Q => (∃ i, xs = [.int i] ∧ Q (.int i) H) ∨ ∃ k, xs = [.bl k] ∧ Q (.int (if k then 1 else 0)) H] := by
  refine ⟨fun r hr => by simp only [List.mem_singleton] at hr; subst hr; exact call_int1, fun w st vs ds d Q ok sr l r e h => .inl ?_⟩
  unfold biF at e
  split at e <;> (try contradiction)
  · rename_i b _ ex
    obtain ⟨v, d', rfl, rv, ed⟩ := one1 l r ex
    cases e
    exact .inr ⟨b, by rw [res_bl rv ed], h _ _ (Ext.refl ok) sr (.int _)⟩
  · rename_i b _ ex
    obtain ⟨v, d', rfl, rv, ed⟩ := one1 l r ex
    cases e
    exact .inl ⟨b, by rw [res_int rv ed], h _ _ (Ext.refl ok) sr (.int _)⟩
/-- list(range(n)) -/
theorem rgV_rvs {w : Wd} : ∀ (n : Nat) (a b : Int), (b - a).toNat = n → RVs C w (rgV a b) (rngL a 1 n) := by
  intro n a b e
  unfold rgV
  rw [e]
  have key : ∀ (n : Nat) (a : Int), RVs C w ((List.range n).map fun i => V.int (a + (i : Nat))) (rngL a 1 n) := by
    intro n
    induction n with
    | zero => intro a; exact .nil
    | succ n ih =>
      intro a
      rw [List.range_succ_eq_map, List.map_cons, rngL, List.map_map]
      refine .cons (by simpa using RV.int a) ?_
      have := ih (a + 1)
      have e2 : ((fun i : Nat => V.int (a + (i : Nat))) ∘ Nat.succ) = fun i : Nat => V.int (a + 1 + (i : Nat)) := by
        funext i
        show V.int (a + ((i + 1 : Nat) : Int)) = V.int (a + 1 + (i : Int))
        congr 1
        omega
      rw [e2]; exact this
  exact key n a
theorem se_listRange {p p' pos' : Pos} (hc : X.calm = true) (hg : Gl X "list") (hm : X.mg "list" = none) (hg' : Gl X "range") (hm' : X.mg "range" = none) (ha : SE C F X .read a ma) (hp : plainE a = true) : SE C F X md (.Call (.Name "list" p) [.Call (.Name "range" p') [a] [] pos'] [] pos) (.bi .listRange [ma]) := by
  intro w env σ st d st' Q ok er sr e h
  unfold ev evs at e
  obtain ⟨ds, st1, e1, e⟩ := bind_ok e
  obtain ⟨d1, st2, e2, e1⟩ := bind_ok e1
  unfold evs at e1
  cases e1
  obtain ⟨eo, rfl⟩ := of_ok e
  refine tE_of (pe_listRg hc hg hm (prg_1 hg' hm' pe_tE (star_ok hp [] _))) (ha w env σ st d1 st1 _ ok er sr e2 fun x w1 x1 s1 r1 => ?_)
  simp only [List.map_cons, List.map_nil] at eo
  unfold biF at eo
  split at eo <;> (try contradiction)
  rename_i n _ ex
  simp at ex
  split at eo
  · rename_i hb
    cases eo
    obtain ⟨b1, b2⟩ := Bool.and_eq_true_iff.mp hb
    obtain ⟨c1, c2⟩ := inI_bounds b1
    have b3 : n.toNat ≤ 16777216 := Nat.le_of_ble_eq_true b2
    refine ⟨n, res_int r1 ex, ⟨by omega, by omega, by omega, by omega, by omega⟩, ?_⟩
    exact new_lst x1.ok s1 (rgV_rvs n.toNat 0 n (by omega)) fun v w' x s r => h v w' (x1.trans x) s r
  · cases eo

/-! ### isinstance -/
def tyS : Ty → String
  | .int => "int"
  | .bool => "bool"
  | .tuple => "tuple"
  | .str => "str"
theorem kit_all : ∀ (t : Ty) (d : Ty ⊕ Bool), True := fun _ _ => trivial
/-- the type's name of data -/
def D.tyn : D → String
  | .non => "NoneType"
  | .bl _ => "bool"
  | .int _ => "int"
  | .str _ => "str"
  | .tup _ => "tuple"
  | .lst _ => "list"
  | .scr _ => "list"
  | .dct _ _ => "dict"
  | _ => "object"
theorem kit_tyn (d : D) (t : Ty) (h : d.tyn ≠ "object") : kitB d.tyn (tyS t) = some (D.typ d t) := by
  cases d <;> first | exact absurd rfl h | skip
  all_goals (cases t <;> first | (with_unfolding_all rfl) | decide +kernel)
theorem ty_of {w : Wd} {st : Store} {v : V} {d : D} (hK : X.K = C.K) (ok : Wok w) (hs : StR C w st) (r : RT C w v d) (hd : (res st d).tyn ≠ "object") : TyX X.K w.H v (.type (res st d).tyn) := by
  cases e : res st d with
  | lst xs => obtain ⟨a, vs, rfl, h1, h2⟩ := res_lst ok hs r e; exact .base (.lst h1)
  | tup xs =>
    obtain ⟨a, vs, rfl, h1, h2⟩ := res_tup ok r e
    rw [hK]
    rcases h1 with (h1 | ⟨o, h1⟩) | ⟨o, its, n, hk, hc, _⟩
    · exact .base (.tup h1)
    · exact .fTuple h1
    · exact .kTuple hk hc
  | scr xs =>
    obtain ⟨a, vs, rfl, h1, h2⟩ := res_scr ok r e
    rw [hK]
    rcases h1 with (h1 | ⟨o, h1⟩) | ⟨o, its, n, hk, hc, _⟩
    · exact .base (.lst h1)
    · exact .base (.frz h1)
    · exact .kList hk hc
  | int i => rw [res_int r e]; exact .base (.int i)
  | bl i => rw [res_bl r e]; exact .base (.bl i)
  | non => rw [res_non r e]; exact .base .non
  | str x => obtain ⟨z, rfl, h⟩ := res_str r e; exact .base (.str z)
  | dct k l =>
    rcases r with r | ⟨a, rfl, r⟩
    · cases r with
      | dct h1 h2 =>
        obtain ⟨kvs, e1, _⟩ := h1
        exact .base (.dK (ok.sub _ _ e1))
      | loc h =>
        rename_i a n
        have e' : (match st[n]? with
          | some (.lst xs) => D.lst xs
          | some (.dct ks vs) => D.dct ks vs
          | some (.dcn ks vs) => D.dcn ks vs
          | _ => D.loc n) = .dct k l := e
        cases q : st[n]? with
        | none => rw [q] at e'; cases e'
        | some c =>
          rw [q] at e'
          cases c <;> first | cases e' | skip
          have z := hs.at_ n _ a q h
          cases z with
          | dct h1 _ =>
            obtain ⟨kvs, e1, _⟩ := h1
            exact .base (.dK e1)
      | _ => cases e
    · cases r.h with
      | lst h1 h2 => cases e
      | dcn h1 h2 h3 h4 => cases e
      | dct h1 h2 =>
        obtain ⟨kvs, e1, _⟩ := h1
        exact .base (.dK e1)
  | loc k => rw [e] at hd; exact absurd rfl hd
  | dcn k l => rw [e] at hd; exact absurd rfl hd
  | rowt k => exact absurd e (res_norow st d k)
  | fn k => rw [e] at hd; exact absurd rfl hd
  | exc k => rw [e] at hd; exact absurd rfl hd
theorem se_isa {x : Str} {t : Ty} {p p' : Pos} (hK : X.K = C.K) (hg : Gl X "isinstance") (hm : X.mg "isinstance" = none) (hg' : Gl X x) (hm' : X.mg x = none) (hv : bootBuiltins x = some (.type (tyS t))) (hn : x ≠ "__name__") (hdb : (x == ("__debug__" : Str)) = false) (ha : SE C F X .read a ma) (hp : plainE a = true) :
    SE C F X md (.Call (.Name "isinstance" p) [a, .Name x p'] [] pos) (.isa ma t) := by
  intro w env σ st d st' Q ok er sr e h
  unfold ev at e
  obtain ⟨dx, st1, e1, e⟩ := bind_ok e
  refine tE_of (pe_callB call_isi hg hm (by decide +kernel) (pa_cons pe_tE (pa_cons (pe_bltn (v := .ty (tyS t)) hg' hm' hv rfl hn hdb) pa_nil) (star_ok hp _ _)) (by decide) (by decide) (star_ok hp _ _) (by rw [backTo_any]; rfl)) (ha w env σ st dx st1 _ ok er sr e1 fun v w1 x1 s1 r1 => ?_)
  have key : (res st1 dx).tyn ≠ "object" ∧ d = .bl (D.typ (res st1 dx) t) ∧ st1 = st' := by
    cases q : res st1 dx <;> rw [q] at e <;> first | cases e | skip
    all_goals (first | exact absurd q (res_norow _ _ _) | exact ⟨by simp [D.tyn], rfl, rfl⟩)
  obtain ⟨k1, rfl, rfl⟩ := key
  exact ⟨v, .ty (tyS t), .type (res st1 dx).tyn, .type (tyS t), D.typ (res st1 dx) t, rfl, .ty _, ty_of hK x1.ok s1 r1 k1, kit_ty (kit_tyn _ t k1), h _ _ x1 s1 ((RV.bl _).rm md)⟩
end
end Mi

set_option Elab.async false
set_option linter.all false
set_option maxRecDepth 100000
set_option maxHeartbeats 2000000
/-! MiR: tuples known to the object; dict(tuple of pairs), dict(dict). -/
namespace Mi
open PySem PySem.Spec PyProof.Rows L2
abbrev tupO (its : List Value) : Obj := { cls := .type "tuple", data := .seq its.toArray }
def tTupF (t : TA) : TE := fun σ H Q => t σ H fun xs H1 => xs.length ≤ sizeLine ∧ ∀ p o, o.dict = none → H1 p = none → Q (.ref p) (upd H1 p (.frz o (.tup xs)))
theorem pe_tupF {X : Cx} {es : List Expr} {t : TA} {pos : Pos} {x1 : Nat} (h : PA X es t) : PE X (.Tuple es x1 pos) (tTupF t) := by
  refine ⟨fun pins s σ H Q I hq => ?_⟩
  refine wpAny_Tuple_spliced (thn (h.run pos pins s σ H _ I hq) fun us s1 ⟨xs, H1, I1, r, z, q⟩ => ⟨by rw [← r.length]; exact z, ?_⟩)
  have hf : H1 s1.heap.objs.size = none := I1.hok.fresh (Nat.le_refl _)
  refine ⟨.ref s1.heap.objs.size, upd H1 s1.heap.objs.size (.frz (tupO us) (.tup xs)), I1.laid (t' := s1.toks) (fun b u e => Heap.get?_push_of_some _ e) (Nat.le_refl _) ?_, rfl, q _ _ rfl hf⟩
  exact ⟨Heap.get?_push_size _ rfl, z, us, r, ⟨_, Heap.get?_push_size _ rfl, rfl, _, rfl⟩⟩
theorem call_tupleF {X : Cx} : CallR X (.type "tuple") (fun xs H Q => ∃ p ys, xs = [.ref p] ∧ SqL X.K H p ys ∧ ∀ l o, o.dict = none → H l = none → Q (.ref l) (upd H l (.frz o (.tup ys)))) := by
  intro pins s σ H xs us Q I r h
  obtain ⟨p, ys, rfl, hq, q⟩ := h
  obtain ⟨u, rfl, rx⟩ := vals1 r
  cases rx
  obtain ⟨its, r', pl, hz⟩ := I.list hq
  have hlen := r'.length
  refine call_tuple_list pl.isList (fun h' kp => ?_) (by simp only [List.size_toArray] <;> omega)
  have I1 : L2.Inv X pins σ H { s with heap := h' } := I.kept (t' := s.toks) kp
  have I2 : L2.Inv X pins σ (upd H h'.objs.size (.frz (tupO its) (.tup ys))) { s with heap := h'.push { cls := .type "tuple", data := .seq its.toArray } } :=
    I1.laid (t' := s.toks) (fun b o e => Heap.get?_push_of_some _ e) (Nat.le_refl _) (show ObjOk X.prog X.w _ _ _ (.frz (tupO its) (.tup ys)) from ⟨Heap.get?_push_size _ rfl, hz, its, r', IsTup.new _ _⟩)
  exact ⟨.ref h'.objs.size, _, I2, rfl, q _ _ rfl (I1.hok.fresh (Nat.le_refl _))⟩
/-- dict(t), t a tuple of pairs -/
theorem call_dictT {X : Cx} (hcalm : X.calm = true) : CallR X (.type "dict") (fun xs H Q => ∃ (a : Addr) (o : Obj) (ps : List Addr) (kvs : List (Key × V)), xs = [.ref a] ∧ H a = some (.frz o (.tup (ps.map V.ref))) ∧ o.dict = none ∧ Paired (fun p kv => SqT X.K H p [kV kv.1, kv.2]) ps kvs ∧
    ∀ p, H p = none → Q (.ref p) (upd H p (.dK (mergeK [] kvs)))) := by
  intro pins s σ H xs us Q I r q
  obtain ⟨a, o, ps, kvs, ex, hq, hod, hp, q⟩ := q
  subst ex
  obtain ⟨u, eu, rx⟩ := vals1 r
  subst eu
  cases rx
  obtain ⟨g1, hz, its, rv, ⟨o', g2, hc, n, hdt⟩⟩ := (show ObjOk X.prog X.w H s.heap a (.frz o (.tup (ps.map V.ref))) from I.hok a _ hq)
  rw [g1] at g2
  cases g2
  have ei := refs_at rv
  subst ei
  rw [List.length_map] at hz
  obtain ⟨prs, rel, hl, hpr⟩ := pairs_of I hp
  -- the keys' own values
  have ⟨qs, hqs⟩ : ∃ qs : List (Value × Value), qs.length = prs.length ∧ ∀ (j : Nat) (k v : Value), qs[j]? = some (k, v) → ∃ key b, prs[j]? = some (key, v) ∧ ps[j]? = some b ∧ IsTup s.heap b #[k, v] ∧ keyIs key k = true := by
    have gen : ∀ (m : Nat), m ≤ prs.length → ∃ qs : List (Value × Value), qs.length = m ∧ ∀ (j : Nat) (k v : Value), qs[j]? = some (k, v) → ∃ key b, prs[j]? = some (key, v) ∧ ps[j]? = some b ∧ IsTup s.heap b #[k, v] ∧ keyIs key k = true := by
      intro m
      induction m with
      | zero => exact fun _ => ⟨[], rfl, fun j k v e => by simp at e⟩
      | succ m ih =>
        intro hm
        obtain ⟨qs, h1, h2⟩ := ih (by omega)
        have hg : prs[m]? = some prs[m] := List.getElem?_eq_getElem (by omega)
        obtain ⟨b, u, e1, e2, e3⟩ := hpr m _ hg
        refine ⟨qs ++ [(u, prs[m].2)], by simp [h1], fun j k v e => ?_⟩
        by_cases hj : j < qs.length
        · rw [List.getElem?_append_left hj] at e
          exact h2 j k v e
        · have hlt : j < (qs ++ [(u, prs[m].2)]).length := (List.getElem?_eq_some_iff.mp e).1
          have hj2 : j = m := by simp at hlt; omega
          subst hj2
          rw [List.getElem?_append_right (by omega), h1] at e
          simp at e
          obtain ⟨rfl, rfl⟩ := e
          exact ⟨prs[j].1, b, hg, e1, e2, e3⟩
    exact gen prs.length (Nat.le_refl _)
  obtain ⟨hql, hqs⟩ := hqs
  have hitems : PairItems s.heap (ps.map Value.ref).toArray (fun j => ps.getD j 0) qs := by
    refine ⟨by simp [hql, hl], fun j k v e => ?_⟩
    obtain ⟨key, b, _, e2, e3, _⟩ := hqs j k v e
    have hg : ps.getD j 0 = b := by rw [List.getD_eq_getElem?_getD, e2]; rfl
    refine ⟨by simp [e2, hg], .inl ?_⟩
    show s.heap.IsTuple (ps.getD j 0) #[k, v]
    rw [hg]
    exact e3
  refine PySem.call_dict_pairs (knd := mixKind X.prog X.w) (kvs := prs) (PairArg.tuple a (ps.map Value.ref).toArray (fun j => ps.getD j 0) qs) (I.ok.hd hcalm) ⟨⟨o, n, g1, hc, hod, hdt⟩, hitems⟩ ⟨hql.symm, fun i key v e => ?_⟩ (by rw [hql, hl]; exact hz) fun h' tk hd' k => ?_
  · obtain ⟨ky, b, e1, _, _, e4⟩ := hqs i key v e
    exact ⟨ky, e1, e4⟩
  · have hm : (s.heap.objs.size == sysModules) = false := beq_eq_false_iff_ne.mpr (Nat.ne_of_gt I.big)
    have hlen : (mergeK [] kvs).length ≤ sizeLine := by
      refine Nat.le_trans (length_mergeK kvs []) ?_
      rw [List.length_nil, Nat.zero_add, rel.length, hl]
      exact hz
    exact ⟨.ref s.heap.objs.size, upd H s.heap.objs.size (.dK (mergeK [] kvs)), I.laid (t' := tk) (fun b ob e => k b ob (fun z => nomatch z) e) (Nat.le_refl _) (show ObjOk X.prog X.w _ _ _ (.dK (mergeK [] kvs)) from ⟨hlen, hm, merged [] prs, KV.merge rel .nil, hd'⟩), rfl, q _ (I.hok.fresh (Nat.le_refl _))⟩
section
variable {C : Ct} {F : Fns} {X : Cx} {md : Md} {a b c : Expr} {ma mb mc : E} {pos : Pos}
theorem new_rowt {w : Wd} {st : Store} {vs : List V} {ds : List D} {Q : VK} (ok : Wok w) (sr : StR C w st) (r : RVs C w vs ds) (h : ∀ v w', Ext w w' → StR C w' st → RV C w' v (.rowt ds) → Q v w'.H) : ∀ p o, o.dict = none → w.H p = none → Q (.ref p) (upd w.H p (.frz o (.tup vs))) := fun p o ho hp =>
  have xa := Ext.add (o := .frz o (.tup vs)) ok hp
  h _ _ xa (sr.add ok hp) (.rowt upd_same ho (r.ext xa))
theorem se_tupR {es : List Expr} {ms : List E} {k : Nat} (h1 : SA C F X .kept es ms) : SE C F X md (.Tuple es k pos) (.tupR ms) := by
  intro w env σ st d st' Q ok er sr e h
  unfold ev at e
  obtain ⟨ds, st1, e1, e⟩ := bind_ok e
  split at e
  · rename_i hf
    cases e
    refine tE_of (pe_tupF pa_tA) (h1 w env σ st ds st' _ ok er sr e1 fun vs w1 x1 s1 l1 r1 => ⟨by rw [l1]; exact fit_le hf, ?_⟩)
    exact new_rowt x1.ok s1 (rvs_of l1 r1) fun v w' x s r => h v w' (x1.trans x) s (r.rm md)
  · cases e
theorem bi_tupleR : BiOk C X (.type "tuple") .tupleR [fun xs H Q => ∃ p ys, xs = [.ref p] ∧ SqL X.K H p ys ∧ ∀ l o, o.dict = none → H l = none → Q (.ref l) (upd H l (.frz o (.tup ys)))] := by
  refine ⟨fun r hr => by simp only [List.mem_singleton] at hr; subst hr; exact call_tupleF, fun w st vs ds d Q ok sr l r e h => .inl ?_⟩
  unfold biF at e
  split at e <;> (try contradiction)
  rename_i xs _ ex
  obtain ⟨v, d', rfl, rv, ed⟩ := one1 l r ex
  obtain ⟨a, us, rfl, h1, h2⟩ := res_lst ok sr rv ed
  cases e
  exact ⟨a, us, rfl, SqL.of h1, new_rowt ok sr h2 h⟩
/-- the pairs, in the heap -/
theorem dict_pairs {w : Wd} (ok : Wok w) : ∀ {vs : List V} {xs : List D} {acc : List (Key × V)} {ds : List D} {p : List D × List D}, RVs C w vs xs → RVs C w (acc.map (·.2)) ds → (acc.map (·.1)).Nodup → dictOf xs (acc.map (fun p => keyD p.1), ds) = some p →
    ∃ (ps : List Addr) (kvs : List (Key × V)), vs = ps.map V.ref ∧ Paired (fun p kv => SqT C.K w.H p [kV kv.1, kv.2]) ps kvs ∧ p.1 = (mergeK acc kvs).map (fun p => keyD p.1) ∧ RVs C w ((mergeK acc kvs).map (·.2)) p.2 ∧ ((mergeK acc kvs).map (·.1)).Nodup
  | _, [], acc, ds, p, .nil, ra, nd, e => by
    cases e
    exact ⟨[], [], rfl, .nil, rfl, ra, nd⟩
  | v :: vs, x :: xs, acc, ds, p, .cons h t, ra, nd, e => by
    have ⟨k, d, ex⟩ : ∃ k d, x = .tup [.int k, d] := by
      match x, e with
      | .tup [.int k, d], _ => exact ⟨k, d, rfl⟩
    subst ex
    cases h with
    | tup h1 h2 =>
      rename_i a us
      cases h2 with
      | cons r1 r2 =>
        cases r2 with
        | cons r2 r3 =>
          cases r3
          cases r1
          rename_i u
          obtain ⟨i1, i2, i3⟩ := put_k (i := k) r2 ra nd
          have e : dictOf xs (putK (.int k) d (acc.map fun p => keyD p.1) ds) = some p := e
          have e2 : putK (.int k) d (acc.map fun p => keyD p.1) ds = ((L2.putK acc (.inl k) u).map (fun p => keyD p.1), (putK (.int k) d (acc.map fun p => keyD p.1) ds).2) := by rw [← i1]
          rw [e2] at e
          obtain ⟨ps, kvs, j1, j2, j3, j4, j5⟩ := dict_pairs ok t i2 i3 e
          exact ⟨a :: ps, (.inl k, u) :: kvs, by rw [j1]; rfl, .cons (SqT.mono' ok.sub h1) j2, j3, j4, j5⟩
theorem se_dictR {p : Pos} (hK : X.K = C.K) (hc : X.calm = true) (hg : Gl X "dict") (hm : X.mg "dict" = none) (ha : SE C F X .kept a ma) (hp : plainE a = true) : SE C F X md (.Call (.Name "dict" p) [a] [] pos) (.dictR ma) := by
  intro w env σ st d st' Q ok er sr e h
  unfold ev at e
  obtain ⟨dx, st1, e1, e⟩ := bind_ok e
  cases dx <;> first | cases e | skip
  rename_i xs
  have e : (if fit xs.length then R.of ((dictOf xs ([], [])).map fun p => D.dct p.1 p.2) st1 else .bad) = .ok d st' := e
  split at e <;> (try contradiction)
  obtain ⟨eo, rfl⟩ := of_ok e
  cases q : dictOf xs ([], []) with
  | none => rw [q] at eo; cases eo
  | some p2 =>
    rw [q] at eo
    cases eo
    refine tE_of (pe_callTy (call_dictT hc) hg hm (by decide +kernel) (pa_cons pe_tE pa_nil (star_ok hp _ _)) (by decide) (by decide) (star_ok hp _ _) (by rw [backTo_any]; rfl)) (ha w env σ st _ st1 _ ok er sr e1 fun v w1 x1 s1 r1 => ?_)
    have r1 : RV C w1 v (.rowt xs) := r1
    cases r1 with
    | rowt h1 h2 h3 =>
      rename_i ad ob vs
      obtain ⟨ps, kvs, rfl, j2, j3, j4, j5⟩ := dict_pairs (acc := []) (ds := []) x1.ok h3 .nil List.nodup_nil q
      refine ⟨ad, ob, ps, kvs, rfl, x1.ok.sub _ _ h1, h2, by rw [hK]; exact j2, fun p hp => ?_⟩
      have xa := Ext.add (o := .dK (mergeK [] kvs)) x1.ok hp
      exact h _ _ (x1.trans xa) (s1.add x1.ok hp) (RV.rm md (.dct ⟨_, upd_same, j3, rfl, j5⟩ (j4.ext xa)))
end
end Mi

set_option Elab.async false
set_option linter.all false
set_option maxRecDepth 100000
set_option maxHeartbeats 1000000
/-! Mi7e: enumerate(tuple). -/
namespace Mi
open PySem PySem.Spec PyProof.Rows L2
theorem meets_enumerate_newT (l : Addr) (items : Array Value) (n : Nat) (dct : Option Addr) (sl : Array (Option Value)) :
    Meets (Builtin.«enumerate.__new__» ⟨[.type "enumerate", .ref l], []⟩) (fun _ R s => s.heap.get? l = some { cls := .type "tuple", dict := dct, data := .seq items n, slots := sl } ∧
      R (.ok (.ret (.ref (s.heap.push { cls := .type "tuple_iterator", data := .fields #[.ref l, .int 0 0] }).objs.size)))
        { s with heap := (s.heap.push { cls := .type "tuple_iterator", data := .fields #[.ref l, .int 0 0] }).push { cls := .type "enumerate", data := .fields #[.none, .bool false, .ref s.heap.objs.size, rawInt 0, .none, .none] } }) :=
  .of_wp fun prog w A R s h => by
    obtain ⟨hp, g, d, tk, os⟩ := s; obtain ⟨hl, h⟩ := h
    have hsub := sub_enumerate
    have hL : Heap.IsTuple (Shared.heap ⟨hp, g, d, tk, os⟩) l items := ⟨_, hl, rfl, n, rfl⟩
    wp_walk using AutoSeq1.wpAny_loadPart' hl
    refine wpAny_stack_any fun st => wpAny_pure ?_
    split
    · rename_i c _ _ _ _ _
      cases (c == Value.type "enumerate")
      · wp_walk using AutoSeq1.wpAny_loadPart' hl, wpAny_pyIter_tuple hL
        exact ⟨_, rfl, h⟩
      · wp_walk using AutoSeq1.wpAny_loadPart' hl, wpAny_pyIter_tuple hL
        exact ⟨_, rfl, h⟩
    · wp_walk using AutoSeq1.wpAny_loadPart' hl, wpAny_pyIter_tuple hL
      exact ⟨_, rfl, h⟩
section
variable {prog : Program} {w : World} {A : Around} {E : Value → Shared → Prop} {s : Shared}
theorem call_enumerate_tuple {l : Addr} {items : Array Value} {Q : Value → Shared → Prop} (hL : s.heap.IsTuple l items)
    (h : ∀ h', IsEnum h' (s.heap.objs.size + 1) s.heap.objs.size 0 .none → h'.IsTupleIter s.heap.objs.size l 0 → h'.objs.size = s.heap.objs.size + 2 →
      (∀ b o, s.heap.get? b = some o → h'.get? b = some o) → Q (.ref (s.heap.objs.size + 1)) { s with heap := h' }) :
    wpAny (model prog w) A (call (.type "enumerate") [.ref l]) Q E s := by
  obtain ⟨⟨c, dct, dt, sl⟩, hl, hc, n, hd⟩ := hL
  replace hc : c = .type "tuple" := hc
  replace hd : dt = .seq items n := hd
  subst hc hd
  refine callType_new F.called_enumerate (by decide) (F.typeCall_enumerate_1 _) (F.newCall_enumerate_1 _) (fun obj => F.args_object_init_2 obj _) F.entry_enumerate_new
    (meets_enumerate_newT l items n dct sl) ⟨hl, ?_⟩
  have hz : (s.heap.push { cls := .type "tuple_iterator", data := .fields #[.ref l, .int 0 0] }).objs.size = s.heap.objs.size + 1 := Heap.size_push ..
  show _ ∧ _
  rw [hz]
  have he : IsEnum ((s.heap.push { cls := .type "tuple_iterator", data := .fields #[.ref l, .int 0 0] }).push
      { cls := .type "enumerate", data := .fields #[.none, .bool false, .ref s.heap.objs.size, rawInt 0, .none, .none] }) (s.heap.objs.size + 1) s.heap.objs.size 0 .none := by
    have := Heap.get?_push_size (s.heap.push { cls := .type "tuple_iterator", data := .fields #[.ref l, .int 0 0] })
      (o := { cls := .type "enumerate", data := .fields #[.none, .bool false, .ref s.heap.objs.size, rawInt 0, .none, .none] }) rfl
    rw [hz] at this; exact this
  refine ⟨⟨_, he, rfl⟩, h _ he ⟨_, Heap.get?_push_of_some _ (Heap.get?_push_size _ rfl), rfl, rfl⟩ (by rw [Heap.size_push, hz]) fun b o x => Heap.get?_push_of_some _ (Heap.get?_push_of_some _ x)⟩
end
/-- the tuple at a, each item in a new pair -/
def IteT (K : PySem.W.Frag) (a : Addr) : It :=
  ⟨fun i H => ∃ (xs : List V) (x : V), SqT K H a xs ∧ xs[i]? = some x, fun i H v H' => ∃ T x, v = .ref T ∧ H T = none ∧ H' = upd H T (.tup [.int (i : Nat), x]) ∧ ∀ xs, SqT K H a xs → xs[i]? = some x, fun i H => ∃ xs : List V, SqT K H a xs ∧ xs.length = i⟩
theorem turn_enumT {P : Program} {w : World} {K : PySem.W.Frag} {elts : List Expr} {kk : Nat} {tpos : Pos} (a e it : Addr) (hait : a ≠ it) (hae : e ≠ a) :
    Turn P w K (.Tuple elts kk tpos) (IteT K a) [e, it] e (fun i h => (∃ old, IsEnum h e it ((i : Nat) : Int) old) ∧ h.IsTupleIter it a i ∧ e ≠ it) where
  mem := by simp
  obj := fun i h st b hb => by
    obtain ⟨⟨old, he⟩, ⟨o, ho, hc, hd⟩, _⟩ := st
    have e' : b = e ∨ b = it := by simpa using hb
    rcases e' with z | z
    · rw [z]; exact ⟨_, he, fun v q => nomatch q⟩
    · rw [z]; exact ⟨o, ho, fun v q => by rw [hd] at q; cases q⟩
  keep := fun i h h' st k => let ⟨⟨old, he⟩, hi, hne⟩ := st; ⟨⟨old, k e (by simp) _ he⟩, hi.at fun o q => k it (by simp) o q, hne⟩
  item := by
    intro X hP hw hK hc i pins s σ H E I hf st hg
    subst hP hw hK
    obtain ⟨⟨old, he⟩, hit, hne⟩ := st
    obtain ⟨xs, x, hq, hx⟩ := hg
    obtain ⟨its, rv, p, hz⟩ := I.tuple hq
    obtain ⟨u, hu, ru⟩ := rv.get hx
    have hel : e < s.heap.objs.size := Heap.lt_size he
    have hil : it < s.heap.objs.size := by obtain ⟨_, q, _⟩ := hit; exact Heap.lt_size q
    have hT0 : s.heap.IsTuple a its.toArray := p
    have D := Draws.tuple (prog := X.prog) (w := X.w) (A := X.A.in1) (I.ok.hd hc) it a hait its.toArray
    have hi : i < its.toArray.size := by
      have := (List.getElem?_eq_some_iff.mp hu).1
      simpa using this
    refine wpAny_pyNext_enum_itemC D he ⟨hit, hT0⟩ hi hne (by simp [hne, hae]) fun y h' tk hP ho hs' hT hsz hk => ?_
    have ey : y = u := by
      have : its.toArray[i]? = some u := by simpa using hu
      rw [this] at hP
      exact (Option.some.inj hP).symm
    subst ey
    refine ⟨_, rfl, wpAny_letOwnedTupleGo_enum (s := { s with heap := h', toks := tk + 1 }) ho fun h'' he' sb => ?_⟩
    have hT2 : h''.get? s.heap.objs.size = some { cls := .type "tuple", data := .seq #[.int i tk, y] } := (sb.2 _ (Nat.ne_of_gt hel)).trans hT
    have new : ObjOk X.prog X.w (upd H s.heap.objs.size (.tup [.int (i : Nat), x])) h'' s.heap.objs.size (.tup [.int (i : Nat), x]) :=
      ⟨by show 2 ≤ sizeLine; decide, [.int i tk, y], .cons ⟨_, rfl⟩ (.cons ru .nil), ⟨_, hT2, rfl, _, rfl⟩⟩
    have I1 : Inv X pins σ (upd H s.heap.objs.size (.tup [.int (i : Nat), x])) { s with heap := h'', toks := tk + 1 } :=
      I.turnedNew (ch := [e, it]) (fun b ob hb q => (sb.2 b (fun z => hb (by simp [z]))).trans (hk b ob (fun z => hb (by simp [z])) (fun z => hb (by simp [z])) q)) hf (Nat.le_refl _) new
    refine ⟨.ref s.heap.objs.size, _, I1, rfl, ⟨_, x, rfl, I.hok.fresh (Nat.le_refl _), rfl, fun ys hy => by rw [I.tuple_inj hy hq]; exact hx⟩, ⟨⟨y, ?_⟩, hs'.1.at fun o q => (sb.2 it (Ne.symm hne)).trans q, hne⟩, fun b hb => ?_⟩
    · have e1 : ((i + 1 : Nat) : Int) = (i : Int) + 1 := by omega
      rw [e1]; exact he'
    · have hb' : b < s.heap.objs.size := by
        have e' : b = e ∨ b = it := by simpa using hb
        rcases e' with z | z
        · rw [z]; exact hel
        · rw [z]; exact hil
      rw [upd_ne (Nat.ne_of_lt hb')]
      exact (hf b hb).1
  done := by
    intro X hP hw hK hc i pins s σ H E I hf st hg
    subst hP hw hK
    obtain ⟨⟨old, he⟩, hit, hne⟩ := st
    obtain ⟨xs, hq, hx⟩ := hg
    obtain ⟨its, rv, p, hz⟩ := I.tuple hq
    obtain ⟨f0, f1, f2, f3, f4, f5⟩ := hf it (by simp)
    have hl := rv.length
    have hT0 : s.heap.IsTuple a its.toArray := p
    have D := Draws.tuple (prog := X.prog) (w := X.w) (A := X.A.in1) (I.ok.hd hc) it a hait its.toArray
    have ei : i = its.toArray.size := by rw [List.size_toArray]; omega
    subst ei
    exact wpAny_pyNext_enum_endD D he ⟨hit, hT0⟩ fun h' eb => ⟨rfl, I.turned (t' := s.toks) (fun b o hb q => eb b o hb q) f0 f1 f3 f4 f5⟩
  self := fun A i s Q E st h => let ⟨⟨_, he⟩, _⟩ := st; wpAny_pyIter_enum he h
def iEnumA (K : PySem.W.Frag) (ta : TA) : TI := fun σ H R => ta σ H fun vs H1 => ∃ a xs, vs = [.ref a] ∧ ((SqL K H1 a xs ∧ (xs.length ≤ sizeLine → R (Ite K a) H1)) ∨ (SqT K H1 a xs ∧ (xs.length ≤ sizeLine → R (IteT K a) H1)))
theorem pi_enumA {X : Cx} {e : Expr} {ta : TA} {p pos tpos : Pos} {elts : List Expr} {kk : Nat} (hg : Gl X "enumerate") (hm : X.mg "enumerate" = none) (ha : PA X [e] ta) (hs : starEach [e] X.env = [(false, eval e X.env)]) :
    PI X (.Tuple elts kk tpos) (.Call (.Name "enumerate" p) [e] [] pos) (iEnumA X.K ta) := by
  refine ⟨fun pins s σ H R I h => ?_⟩
  refine Call_ (ld_blt I hg hm boot_enumerate (PyProof.Rows.callWith_type1 (thn (ha.run pos pins s σ H _ I h) fun us s1 ⟨vs, H1, I1, r1, q1⟩ => ?_) hs rfl))
  obtain ⟨a, xs, ex, q⟩ := q1
  subst ex
  cases r1 with
  | cons r rr =>
    cases rr
    cases r
    have fp : ∀ b, b ∈ [s1.heap.objs.size + 1, s1.heap.objs.size] → FpOk X pins H1 b := fun b hb => by
      have e' : b = s1.heap.objs.size + 1 ∨ b = s1.heap.objs.size := by simpa using hb
      have hle : s1.heap.objs.size ≤ b := by
        rcases e' with z | z
        · rw [z]; exact Nat.le_add_right _ _
        · rw [z]; exact Nat.le_refl _
      exact I1.fpOk hle (I1.hok.fresh hle)
    rcases q with ⟨hq, q⟩ | ⟨hq, q⟩
    · obtain ⟨its, rv, p', hz⟩ := I1.list hq
      refine call_enumerate_list p'.isList fun h' he hit hsz hk => wpAny_pyIter_enum he ?_
      have I2 : Inv X pins σ H1 { s1 with heap := h' } := I1.kept (t' := s1.toks) hk
      exact ⟨s1.heap.objs.size + 1, [s1.heap.objs.size + 1, s1.heap.objs.size], _, _, H1, rfl, I2, turn_enum a (s1.heap.objs.size + 1) s1.heap.objs.size, ⟨⟨.none, he⟩, hit, Nat.succ_ne_self _⟩, fp, q hz⟩
    · obtain ⟨its, rv, p', hz⟩ := I1.tuple hq
      have hlt : a < s1.heap.objs.size := by obtain ⟨o, ho, _⟩ := id p'; exact Heap.lt_size ho
      refine call_enumerate_tuple (show s1.heap.IsTuple a its.toArray from p') fun h' he hit hsz hk => wpAny_pyIter_enum he ?_
      have I2 : Inv X pins σ H1 { s1 with heap := h' } := I1.kept (t' := s1.toks) hk
      exact ⟨s1.heap.objs.size + 1, [s1.heap.objs.size + 1, s1.heap.objs.size], _, _, H1, rfl, I2, turn_enumT a (s1.heap.objs.size + 1) s1.heap.objs.size (Nat.ne_of_lt hlt) (Nat.ne_of_gt (Nat.lt_succ_of_lt hlt)), ⟨⟨.none, he⟩, hit, Nat.succ_ne_self _⟩, fp, q hz⟩
end Mi

set_option Elab.async false
set_option linter.all false
set_option maxRecDepth 100000
set_option maxHeartbeats 1000000
/-! Mi7: calls of defs; what is walked; list comprehensions. -/
namespace Mi
open PySem PySem.Spec PyProof.Rows L2

/-- a def's promise: it does what the small language's def does -/
def FEnds (C : Ct) (w : Wd) (Q : VK) (E : XK) : R D → Prop
  | .ok d st' => ∀ v w', Ext w w' → StR C w' st' → RV C w' v d → Q v w'.H
  | .err c st' => ∀ w', Ext w w' → StR C w' st' → E (.ref (C.xa c)) none w'.H
  | .bad => False
def spF (C : Ct) (F : Fns) (f : Nat) : Sp := fun vs H Q E => ∃ (w : Wd) (st : Store) (ds : List D), w.H = H ∧ Wok w ∧ StR C w st ∧ RVs C w vs ds ∧ FEnds C w Q E (F.fn f ds st)
/-- the def f stands at the module's name x -/
structure FnAt (C : Ct) (F : Fns) (X : Cx) (x : Str) (f : Nat) : Prop where
  mg : X.mg x = some (.ref (C.fa f))
  kp : PySem.W.keepIn X.K (.ref (C.fa f)) = true
  ok : ∃ n fd ps, Room n X.A ∧ Binds X.K fd ps [] ∧ FnOk X.prog X.w X.K X.mg X.base (L2.CX X.prog X.w) n (C.fa f) fd ps (spF C F f)
theorem passF {X : Cx} : Passes (L2.CX X.prog X.w) X (fun _ _ _ => False) := fun _ _ _ _ _ _ _ h => by
  obtain ⟨_, _, _, _, _, _, _, _, _, _, _, _, h⟩ := h
  exact h.elim

section
variable {C : Ct} {F : Fns} {X : Cx} {md : Md} {a b c : Expr} {ma mb mc : E} {pos : Pos}
theorem rvs_kept {w : Wd} {vs : List V} {ds : List D} (l : vs.length = ds.length) (r : ∀ (i : Nat) (v : V) (d : D), vs[i]? = some v → ds[i]? = some d → RM .kept C w v d) : RVs C w vs ds := rvs_of l r
theorem se_call {x : Str} {f : Nat} {e : Expr} {es : List Expr} {ms : List E} {p : Pos} (hf : FnAt C F X x f) (hg : Gl X x) (hdb : (x == ("__debug__" : Str)) = false) (ha : SA C F X .kept (e :: es) ms) (hp : (e :: es).all plainE = true) :
    SE C F X md (.Call (.Name x p) (e :: es) [] pos) (.call f ms) := by
  intro w env σ st d st' Q ok er sr ee h
  unfold ev at ee
  obtain ⟨ds, st1, e1, ee⟩ := bind_ok ee
  have hp' := hp
  rw [List.all_cons] at hp'
  obtain ⟨p1, p2⟩ := Bool.and_eq_true_iff.mp hp'
  obtain ⟨n, fd, ps, hr, hb, G⟩ := hf.ok
  refine tE_of (pe_call G hr hg hf.mg hf.kp hb .nil passF pa_tA hdb (star_ok p1 _ _) (by rw [backTo_any]; exact star_all p2 _)) (ha w env σ st ds st1 _ ok er sr e1 fun vs w1 x1 s1 l1 r1 => ?_)
  rw [List.append_nil]
  exact ⟨w1, st1, ds, rfl, x1.ok, s1, rvs_kept l1 r1, by rw [ee]; exact fun v w' x s r => h v w' (x1.trans x) s (r.rm md)⟩
theorem se_call0 {x : Str} {f : Nat} {p : Pos} (hf : FnAt C F X x f) (hg : Gl X x) (hdb : (x == ("__debug__" : Str)) = false) : SE C F X md (.Call (.Name x p) [] [] pos) (.call f []) := by
  intro w env σ st d st' Q ok er sr ee h
  unfold ev at ee
  obtain ⟨ds, st1, e1, ee⟩ := bind_ok ee
  unfold evs at e1
  cases e1
  obtain ⟨n, fd, ps, hr, hb, G⟩ := hf.ok
  refine tE_of (pe_call0 G hr hg hf.mg hf.kp hb .nil passF hdb) ?_
  exact ⟨w, st, [], rfl, ok, sr, .nil, by rw [ee]; exact fun v w' x s r => h v w' x s (r.rm md)⟩
/-! ### what may leave by an error -/
def SX (C : Ct) (F : Fns) (X : Cx) (e : Expr) (m : E) : Prop := ∀ (w : Wd) (env : Env) (σ : Slots) (st : Store) (Q : VK) (E : XK), Wok w → EnvR C w env σ → StR C w st → Takes X (fun cls d _ H => E cls d H) → FEnds C w Q E (ev F .kept m env st) → tE X e σ w.H Q
theorem sx_se (h1 : SE C F X .kept a ma) (hn : ∀ env st c st', ev F .kept ma env st ≠ .err c st') : SX C F X a ma := by
  intro w env σ st Q E ok er sr tk h
  cases e : ev F .kept ma env st with
  | ok d st' => rw [e] at h; exact h1 w env σ st d st' Q ok er sr e h
  | err c st' => exact absurd e (hn _ _ _ _)
  | bad => rw [e] at h; exact h.elim
theorem bind_noerr {α β : Type} {r : R α} {f : α → Store → R β} (h : ∀ a st c st', f a st ≠ .err c st') : ∀ c st', r.bind f ≠ .err c st' := by
  intro c st' e
  cases r with
  | ok a st1 => exact h a st1 c st' e
  | err _ _ => cases e
  | bad => cases e
theorem bind_cases {α β : Type} {r : R α} {f : α → Store → R β} : (∃ a st, r = .ok a st ∧ r.bind f = f a st) ∨ r.bind f = .bad := by
  cases r with
  | ok a st1 => exact .inl ⟨a, st1, rfl, rfl⟩
  | err _ _ => exact .inr rfl
  | bad => exact .inr rfl
theorem sx_call {x : Str} {f : Nat} {e : Expr} {es : List Expr} {ms : List E} {p : Pos} (hf : FnAt C F X x f) (hg : Gl X x) (hdb : (x == ("__debug__" : Str)) = false) (ha : SA C F X .kept (e :: es) ms) (hp : (e :: es).all plainE = true) :
    SX C F X (.Call (.Name x p) (e :: es) [] pos) (.call f ms) := by
  intro w env σ st Q E ok er sr tk h
  unfold ev at h
  rcases bind_cases (r := evs F .kept ms env st) (f := fun ds st => F.fn f ds st) with ⟨ds, st1, e1, ee⟩ | ee
  · rw [ee] at h
    have hp' := hp
    rw [List.all_cons] at hp'
    obtain ⟨p1, p2⟩ := Bool.and_eq_true_iff.mp hp'
    obtain ⟨n, fd, ps, hr, hb, G⟩ := hf.ok
    refine tE_of (pe_call G hr hg hf.mg hf.kp hb .nil (passes_call tk fun _ _ _ _ h => h) pa_tA hdb (star_ok p1 _ _) (by rw [backTo_any]; exact star_all p2 _)) (ha w env σ st ds st1 _ ok er sr e1 fun vs w1 x1 s1 l1 r1 => ?_)
    rw [List.append_nil]
    refine ⟨w1, st1, ds, rfl, x1.ok, s1, rvs_kept l1 r1, ?_⟩
    cases q : F.fn f ds st1 with
    | ok d st' => rw [q] at h; exact fun v w' x s r => h v w' (x1.trans x) s r
    | err c st' => rw [q] at h; exact fun w' x s => h w' (x1.trans x) s
    | bad => rw [q] at h; exact h
  · rw [ee] at h; exact h.elim
theorem sx_call0 {x : Str} {f : Nat} {p : Pos} (hf : FnAt C F X x f) (hg : Gl X x) (hdb : (x == ("__debug__" : Str)) = false) : SX C F X (.Call (.Name x p) [] [] pos) (.call f []) := by
  intro w env σ st Q E ok er sr tk h
  unfold ev evs at h
  obtain ⟨n, fd, ps, hr, hb, G⟩ := hf.ok
  exact tE_of (pe_call0 G hr hg hf.mg hf.kp hb .nil (passes_call tk fun _ _ _ _ h => h) hdb) ⟨w, st, [], rfl, ok, sr, .nil, h⟩
theorem FEnds.lift {w w1 : Wd} {Q : VK} {E : XK} {r : R D} (x1 : Ext w w1) (h : FEnds C w Q E r) : FEnds C w1 Q E r := by
  cases r with
  | ok d st' => exact fun v w' x s r => h v w' (x1.trans x) s r
  | err c st' => exact fun w' x s => h w' (x1.trans x) s
  | bad => exact h
theorem sx_ite (ht : ST C F X c mc) (ha : SX C F X a ma) (hb : SX C F X b mb) : SX C F X (.IfExp c a b pos) (.ite mc ma mb) := by
  intro w env σ st Q E ok er sr tk h
  unfold ev at h
  cases e1 : ev F .read mc env st with
  | ok dx st1 =>
    rw [e1] at h
    cases dx with
    | bl k =>
      refine tE_of (pe_ifExp pt_tT pe_tE pe_tE) (ht w env σ st _ st1 _ ok er sr e1 (fun b' w1 x1 s1 eb => ?_) ⟨k, rfl⟩)
      cases eb
      cases k with
      | true =>
        rw [if_pos rfl]
        exact ha w1 env σ st1 Q E x1.ok (er.ext x1) s1 tk (FEnds.lift x1 h)
      | false =>
        rw [if_neg (by decide)]
        exact hb w1 env σ st1 Q E x1.ok (er.ext x1) s1 tk (FEnds.lift x1 h)
    | _ => exact h.elim
  | err _ _ => rw [e1] at h; exact h.elim
  | bad => rw [e1] at h; exact h.elim
theorem sx_one {bop : BoolOp} (h : SX C F X a ma) : SX C F X (.BoolOp bop [a] pos) ma := fun w env σ st Q E ok er sr tk hq => tE_of (pe_one pe_tE) (h w env σ st Q E ok er sr tk hq)
theorem sx_and {rest : List Expr} (ha : SE C F X .read a ma) (hb : SX C F X (.BoolOp .And (b :: rest) pos) mb) : SX C F X (.BoolOp .And (a :: b :: rest) pos) (.and ma mb) := by
  intro w env σ st Q E ok er sr tk h
  unfold ev at h
  cases e1 : ev F .read ma env st with
  | ok dx st1 =>
    rw [e1] at h
    refine tE_of (pe_and pe_tE pe_tE) (ha w env σ st dx st1 _ ok er sr e1 fun x w1 x1 s1 r1 => ?_)
    cases dx with
    | bl k =>
      refine ⟨k, res_bl (st := st1) r1 rfl, ?_⟩
      cases k with
      | true =>
        rw [if_pos rfl]
        exact hb w1 env σ st1 Q E x1.ok (er.ext x1) s1 tk (FEnds.lift x1 h)
      | false =>
        rw [if_neg (by decide)]
        exact h _ _ x1 s1 (.bl _)
    | _ => exact h.elim
  | err _ _ => rw [e1] at h; exact h.elim
  | bad => rw [e1] at h; exact h.elim
theorem sx_or {rest : List Expr} (ha : SE C F X .read a ma) (hb : SX C F X (.BoolOp .Or (b :: rest) pos) mb) : SX C F X (.BoolOp .Or (a :: b :: rest) pos) (.or ma mb) := by
  intro w env σ st Q E ok er sr tk h
  unfold ev at h
  cases e1 : ev F .read ma env st with
  | ok dx st1 =>
    rw [e1] at h
    refine tE_of (pe_or pe_tE pe_tE) (ha w env σ st dx st1 _ ok er sr e1 fun x w1 x1 s1 r1 => ?_)
    cases dx with
    | bl k =>
      refine ⟨k, res_bl (st := st1) r1 rfl, ?_⟩
      cases k with
      | false =>
        rw [if_neg (by decide)]
        exact hb w1 env σ st1 Q E x1.ok (er.ext x1) s1 tk (FEnds.lift x1 h)
      | true =>
        rw [if_pos rfl]
        exact h _ _ x1 s1 (.bl _)
    | _ => exact h.elim
  | err _ _ => rw [e1] at h; exact h.elim
  | bad => rw [e1] at h; exact h.elim
/-- forms by which no error leaves -/
def calmE : E → Bool
  | .call .. => false
  | .calld .. => false
  | .make .. => false
  | .meth .. => false
  | .and .. => false
  | .or .. => false
  | .ite .. => false
  | _ => true
theorem of_noerr {o : Option D} {st : Store} : ∀ c st', R.of o st ≠ .err c st' := by
  intro c st' e
  cases o <;> cases e
theorem lcGo_noerr {turn : D → Store → R (Option D)} : ∀ (xs acc : List D) (st : Store) (c : Nat) (st' : Store), lcGo turn xs acc st ≠ .err c st'
  | [], acc, st, c, st', e => by cases e
  | x :: xs, acc, st, c, st', e => by
    unfold lcGo at e
    refine bind_noerr (fun o st1 c st' => ?_) c st' e
    cases o with
    | none => exact lcGo_noerr xs acc st1 c st'
    | some d => exact lcGo_noerr xs (acc ++ [d]) st1 c st'
theorem okIf_noerr {α : Type} {b : Bool} {a : α} {st : Store} : ∀ c st', (if b then R.ok a st else .bad) ≠ .err c st' := by
  intro c st' e
  cases b <;> cases e
theorem spcB_noerr (k : Nat) (r : R D) (c : Nat) (st' : Store) : spcB k r ≠ .err c st' := by
  intro e
  unfold spcB at e
  split at e <;> first | cases e | skip
  split at e <;> cases e
theorem lcLoc_noerr {turn : D → Store → R (Option D)} {n L : Nat} : ∀ (k : Nat) (acc : List D) (st : Store) (c : Nat) (st' : Store), lcLoc turn n L k acc st ≠ .err c st'
  | 0, acc, st, c, st', e => by
    unfold lcLoc at e
    split at e
    · split at e <;> cases e
    · cases e
  | k + 1, acc, st, c, st', e => by
    unfold lcLoc at e
    split at e
    · split at e
      · refine bind_noerr (fun o st1 c st' => ?_) c st' e
        cases o with
        | none => exact lcLoc_noerr k acc st1 c st'
        | some d => exact lcLoc_noerr k (acc ++ [d]) st1 c st'
      · cases e
    · cases e
theorem calm_noerr {md : Md} {m : E} (h : calmE m = true) (env : Env) (st : Store) (c : Nat) (st' : Store) : ev F md m env st ≠ .err c st' := by
  cases m <;> first | cases h | skip
  case con => exact fun e => by unfold ev at e; cases e
  case glob => exact fun e => by unfold ev at e; cases e
  case var i =>
    intro e
    unfold ev at e
    cases q : env[i]? with
    | none => rw [q] at e; cases e
    | some s =>
      rw [q] at e
      cases s with
      | emp => cases e
      | val d => cases e
      | own d => cases md <;> first | cases e | (cases d <;> cases e)
      | lck d => cases md <;> cases e
  case tup => unfold ev; exact bind_noerr (fun _ _ => okIf_noerr) _ _
  case list => unfold ev; exact bind_noerr (fun _ _ => okIf_noerr) _ _
  case tupR => unfold ev; exact bind_noerr (fun _ _ => okIf_noerr) _ _
  case dictR =>
    unfold ev
    refine bind_noerr (fun o st1 c st' e => ?_) _ _
    cases o <;> first | cases e | skip
    rename_i xs
    simp only at e
    split at e
    · exact of_noerr _ _ e
    · cases e
  case dict0 => exact fun e => by unfold ev at e; cases e
  case dictN => exact fun e => by unfold ev at e; cases e
  case bin => unfold ev; exact bind_noerr (fun _ _ => bind_noerr fun _ _ => of_noerr) _ _
  case neg => unfold ev; exact bind_noerr (fun _ _ => of_noerr) _ _
  case not => unfold ev; exact bind_noerr (fun x _ c st' e => by cases x <;> cases e) _ _
  case cmp => unfold ev; exact bind_noerr (fun _ _ => bind_noerr fun _ _ => of_noerr) _ _
  case chain o1 o2 a b c' =>
    unfold ev
    refine bind_noerr (fun x _ => bind_noerr fun y st1 => ?_) _ _
    intro c st' e
    cases q : Mi.cmp o1 x y with
    | none => rw [q] at e; cases e
    | some z =>
      rw [q] at e
      cases z <;> first | cases e | skip
      rename_i k
      cases k with
      | true => exact bind_noerr (r := ev F .read c' env st1) (fun _ _ => of_noerr) _ _ e
      | false => cases e
  case fld =>
    unfold ev
    refine bind_noerr (fun o st1 c st' e => ?_) _ _
    cases o <;> first | cases e | skip
    rename_i n
    cases q : st1[n]? with
    | none => simp only [q] at e; cases e
    | some cl =>
      simp only [q] at e
      cases cl <;> first | cases e | exact of_noerr _ _ e
  case bi => unfold ev; exact bind_noerr (fun _ _ => of_noerr) _ _
  case isa =>
    unfold ev
    refine bind_noerr (fun o st1 c st' e => ?_) _ _
    cases q : res st1 o <;> rw [q] at e <;> cases e
  case isx =>
    unfold ev
    refine bind_noerr (fun o st1 c st' e => ?_) _ _
    cases o <;> cases e
  case idx => unfold ev; exact bind_noerr (fun _ _ => bind_noerr fun _ _ => of_noerr) _ _
  case slc => unfold ev; exact bind_noerr (fun _ _ => bind_noerr fun _ _ => bind_noerr fun _ _ => of_noerr) _ _
  case rev => unfold ev; exact bind_noerr (fun _ _ => of_noerr) _ _
  case rng => unfold ev; cases md <;> first | (exact fun e => by cases e) | exact bind_noerr (fun _ _ => of_noerr) _ _
  case zip => unfold ev; cases md <;> first | (exact fun e => by cases e) | exact bind_noerr (fun _ _ => of_noerr) _ _
  case enm => unfold ev; cases md <;> first | (exact fun e => by cases e) | exact bind_noerr (fun _ _ => of_noerr) _ _
  case lc =>
    unfold ev
    refine bind_noerr (fun x st1 c st' => ?_) _ _
    cases q : iterOf x with
    | none => exact fun e => by cases e
    | some xs => exact lcGo_noerr _ _ _ _ _
  case pop =>
    unfold ev
    refine bind_noerr (fun o st1 c st' e => ?_) _ _
    cases o <;> first | cases e | skip
    rename_i n
    cases q : st1[n]? with
    | none => simp only [q] at e; cases e
    | some cl =>
      simp only [q] at e
      cases cl <;> first | cases e | skip
      rename_i xs
      simp only at e
      cases q2 : xs[xs.length - 1]? with
      | none => rw [q2] at e; cases e
      | some d => rw [q2] at e; cases e
  case newN => exact fun e => by unfold ev at e; cases e
  case getd =>
    unfold ev
    refine bind_noerr (fun d st1 c st' e => ?_) _ _
    cases q : res st1 d <;> rw [q] at e <;> first | cases e | skip
    refine bind_noerr (fun k _ => bind_noerr fun x st2 c st' e => ?_) _ _ e
    cases q : res st2 d <;> rw [q] at e <;> first | cases e | exact okIf_noerr _ _ e
  case spc =>
    unfold ev
    refine bind_noerr (fun o _ => bind_noerr fun ds st1 c st' e => ?_) _ _
    split at e
    · exact spcB_noerr _ _ _ _ e
    · cases e
  case isc =>
    unfold ev
    refine bind_noerr (fun o st1 c st' e => ?_) _ _
    cases o <;> first | cases e | skip
    simp only at e
    split at e <;> cases e
  case mk =>
    unfold ev
    refine bind_noerr (fun o st1 c st' e => ?_) _ _
    cases o <;> cases e
  case cmpD => unfold ev; exact bind_noerr (fun _ _ => bind_noerr fun _ _ => of_noerr) _ _
  case lcL =>
    unfold ev
    refine bind_noerr (fun o st1 c st' e => ?_) _ _
    cases o <;> first | cases e | skip
    rename_i n
    cases q : st1[n]? with
    | none => simp only [q] at e; cases e
    | some cl =>
      simp only [q] at e
      cases cl <;> first | cases e | skip
      simp only at e
      split at e
      · cases e
      · exact lcLoc_noerr _ _ _ _ _ e
  case bad => exact fun e => by unfold ev at e; cases e
theorem se_bad : SE C F X md a .bad := fun w env σ st d st' Q ok er sr e h => by unfold ev at e; cases e

/-! ### what is walked -/
structure Later (w w' : Wd) : Prop where
  ok : Wok w'
  sub : ∀ a o, w.S a = some o → w'.S a = some o
  phi : ∀ (n : Nat) (a : Addr), w.φ[n]? = some a → w'.φ[n]? = some a
theorem Ext.later {w w' : Wd} (x : Ext w w') : Later w w' := ⟨x.ok, x.sub, x.phi⟩
theorem Later.refl {w : Wd} (h : Wok w) : Later w w := ⟨h, fun _ _ e => e, fun _ _ e => e⟩
theorem Later.trans {a b c : Wd} (x : Later a b) (y : Later b c) : Later a c := ⟨y.ok, fun p o e => y.sub p o (x.sub p o e), fun n p e => y.phi n p (x.phi n p e)⟩
def relOf : Md → Wd → Wd → Prop
  | .walk => Later
  | _ => Ext
theorem relOf.later {md : Md} {w w' : Wd} (h : relOf md w w') : Later w w' := by
  cases md with
  | walk => exact h
  | kept => exact Ext.later h
  | read => exact Ext.later h
  | iter => exact Ext.later h
/-- a step of a walk: a new thing at most -/
structure Grow (w w' : Wd) : Prop where
  x : Ext w w'
  p : w'.φ = w.φ
  h : ∀ a ∈ w.φ, w'.H a = w.H a
theorem Grow.refl {w : Wd} (h : Wok w) : Grow w w := ⟨Ext.refl h, rfl, fun _ _ => rfl⟩
theorem Grow.add {w : Wd} (h : Wok w) {p : Addr} {o : HO} (hn : w.H p = none) : Grow w (w.add p o) := ⟨Ext.add h hn, rfl, fun a ha => upd_ne (fun z => h.there a ha (by rw [z]; exact hn))⟩
theorem StR.grow {w w' : Wd} {st : Store} (h : StR C w st) (g : Grow w w') : StR C w' st := h.ext g.x g.p g.h
/-- the walk J gives the data ds -/
def IterR (rel : Wd → Wd → Prop) (C : Ct) (w : Wd) (J : It) (ds : List D) : Prop := ∀ w', rel w w' →
  (∀ (i : Nat) (d : D), ds[i]? = some d → J.go i w'.H ∧ ∀ x H', J.yld i w'.H x H' → ∃ w'', Grow w' w'' ∧ w''.H = H' ∧ RV C w'' x d) ∧ J.stop ds.length w'.H
def tI (X : Cx) (tg iter : Expr) : TI := fun σ H R => ∀ pins s, Inv X pins σ H s → wpAny (model X.prog X.w) X.A (eval iter X.env) (fun v s1 => wpAny (model X.prog X.w) X.A (pyIter v) (PIE X pins σ tg R) X.xe s1) X.xe s
theorem pi_tI {tg iter : Expr} : PI X tg iter (tI X tg iter) := ⟨fun pins s σ H R I h => h pins s I⟩
theorem tI_of {tg iter : Expr} {t : TI} {σ : Slots} {H : Hp} {R : It → Hp → Prop} (h : PI X tg iter t) (q : t σ H R) : tI X tg iter σ H R := fun pins s I => h.run pins s σ H R I q
def SI (C : Ct) (F : Fns) (X : Cx) (md : Md) (tg e : Expr) (m : E) : Prop := ∀ (w : Wd) (env : Env) (σ : Slots) (st : Store) (d : D) (st' : Store) (ds : List D) (R : It → Hp → Prop), Wok w → EnvR C w env σ → StR C w st → ev F md m env st = .ok d st' → iterOf d = some ds →
  (∀ J w', Ext w w' → StR C w' st' → ds.length ≤ sizeLine → IterR (relOf md) C w' J ds → R J w'.H) → tI X tg e σ w.H R

/-- a list or a tuple -/
def iSeq (K : PySem.W.Frag) (tl : TE) : TI := fun σ H R => tl σ H fun x H1 => ∃ a, x = .ref a ∧ ((∃ xs, SqL K H1 a xs ∧ (xs.length ≤ sizeLine → R (Itl K a) H1)) ∨ (∃ xs, SqT K H1 a xs ∧ (xs.length ≤ sizeLine → R (Itt K a) H1)) ∨ (∃ o P w es, H1 a = some (.frz o (dN P w a es)) ∧ (es.length ≤ sizeLine → R (ItN a o P w es) H1)))
theorem pi_seq {tg l : Expr} {tl : TE} (hl : PE X l tl) : PI X tg l (iSeq X.K tl) := by
  refine ⟨fun pins s σ H R I h => ?_⟩
  refine thn (hl.run pins s σ H _ I h) fun v s1 ⟨x, H1, I1, r1, q1⟩ => ?_
  obtain ⟨a, e, q⟩ := q1
  subst e
  cases r1
  rcases q with ⟨xs, hq, q⟩ | ⟨xs, hq, q⟩ | ⟨o, P, w, es, hd, q⟩
  · obtain ⟨its, rv, p, hz⟩ := I1.list hq
    refine wpAny_pyIter_list p.isList ?_
    refine ⟨s1.heap.objs.size, [s1.heap.objs.size], _, _, H1, rfl, I1.kept (t' := s1.toks) fun b o e => Heap.get?_push_of_some _ e, turn_list a _, ⟨_, Heap.get?_push_size _ rfl, rfl, rfl⟩, fun b hb => ?_, q hz⟩
    have e : b = s1.heap.objs.size := by simpa using hb
    subst e
    exact I1.fpOk (Nat.le_refl _) (I1.hok.fresh (Nat.le_refl _))
  · obtain ⟨its, rv, p, hz⟩ := I1.tuple hq
    refine wpAny_pyIter_tuple (show s1.heap.IsTuple a its.toArray from p) ?_
    refine ⟨s1.heap.objs.size, [s1.heap.objs.size], _, _, H1, rfl, I1.kept (t' := s1.toks) fun b o e => Heap.get?_push_of_some _ e, turn_tuple a _, ⟨_, Heap.get?_push_size _ rfl, rfl, rfl⟩, fun b hb => ?_, q hz⟩
    have e : b = s1.heap.objs.size := by simpa using hb
    subst e
    exact I1.fpOk (Nat.le_refl _) (I1.hok.fresh (Nat.le_refl _))
  · obtain ⟨hs, hgd, hx, ens, ep, hdt, hsz, ent⟩ := frzN I1 hd
    have hz : es.length ≤ sizeLine := by
      obtain ⟨_, ⟨_, z, _⟩, _⟩ := I1.hok a _ hd
      exact z
    refine iter_keys hs hgd hx hdt (pi_one (tk := s1.toks) I1 _ (turn_N _ hdt) ⟨_, Heap.get?_push_size _ rfl, rfl, ?_⟩ (q hz))
    rw [hsz] <;> rfl
theorem iter_dcn {rel : Wd → Wd → Prop} {w : Wd} {a : Addr} {o : Obj} {P : Program} {W : World} {es : List NE} {ks : List D} (hl : ∀ w', rel w w' → Later w w') (ha : ∀ w', rel w w' → w'.H a = some (.frz o (dN P W a es))) (r : RVs C w (adrs es) ks) : IterR rel C w (ItN a o P W es) ks := fun w' x => by
  have L := hl w' x
  have h1 := ha w' x
  have len : es.length = ks.length := by rw [← r.length]; exact (List.length_map ..).symm
  refine ⟨fun i d e => ?_, h1, by rw [len]; exact Nat.le_refl _⟩
  obtain ⟨v, ev, rv⟩ := r.get e
  have hi : i < ks.length := (List.getElem?_eq_some_iff.mp e).1
  refine ⟨⟨h1, by rw [len]; exact hi⟩, fun y H' hy => ?_⟩
  obtain ⟨rfl, x0, e2, rfl⟩ := hy
  have ev : (es.map fun x => V.ref x.2.1)[i]? = some v := ev
  rw [List.getElem?_map, e2] at ev
  cases ev
  exact ⟨w', Grow.refl L.ok, rfl, rv.mono L.sub L.phi⟩
theorem iter_list {rel : Wd → Wd → Prop} {w : Wd} {a : Addr} {vs : List V} {ds : List D} {K : PySem.W.Frag} (hl : ∀ w', rel w w' → Later w w') (ha : ∀ w', rel w w' → w'.H a = some (.lst vs)) (r : RVs C w vs ds) : IterR rel C w (Itl K a) ds := fun w' x => by
  have L := hl w' x
  have h1 := ha w' x
  refine ⟨fun i d e => ?_, ⟨vs, SqL.of h1, by rw [r.length]; exact Nat.le_refl _⟩⟩
  obtain ⟨v, ev, rv⟩ := r.get e
  refine ⟨⟨vs, v, SqL.of h1, ev⟩, fun y H' hy => ?_⟩
  obtain ⟨rfl, hy⟩ := hy
  have e2 := hy vs (SqL.of h1)
  rw [ev] at e2
  cases e2
  exact ⟨w', Grow.refl L.ok, rfl, rv.mono L.sub L.phi⟩
theorem iter_tup {rel : Wd → Wd → Prop} {w : Wd} {a : Addr} {vs : List V} {ds : List D} {K : PySem.W.Frag} (hl : ∀ w', rel w w' → Later w w') (ha : ∀ w', rel w w' → SqT K w'.H a vs) (r : RVs C w vs ds) : IterR rel C w (Itt K a) ds := fun w' x => by
  have L := hl w' x
  have h1 := ha w' x
  refine ⟨fun i d e => ?_, ⟨vs, h1, by rw [r.length]; exact Nat.le_refl _⟩⟩
  obtain ⟨v, ev, rv⟩ := r.get e
  refine ⟨⟨vs, v, h1, ev⟩, fun y H' hy => ?_⟩
  obtain ⟨rfl, hy⟩ := hy
  have e2 := hy vs h1
  rw [ev] at e2
  cases e2
  exact ⟨w', Grow.refl L.ok, rfl, rv.mono L.sub L.phi⟩
theorem si_seq {tg : Expr} (hK : X.K = C.K) (hm : md = .iter ∨ md = .walk) (ha : SE C F X md a ma) : SI C F X md tg a ma := by
  intro w env σ st d st' ds R ok er sr e ei h
  refine tI_of (pi_seq pe_tE) (ha w env σ st d st' _ ok er sr e fun v w1 x1 s1 r1 => ?_)
  have hS : ∀ {v' : V} {d' : D}, RV C w1 v' d' → iterOf d' = some ds → ∃ a, v' = .ref a ∧ ((∃ xs, SqL X.K w1.H a xs ∧ (xs.length ≤ sizeLine → R (Itl X.K a) w1.H)) ∨ (∃ xs, SqT X.K w1.H a xs ∧ (xs.length ≤ sizeLine → R (Itt X.K a) w1.H)) ∨ (∃ o P w es, w1.H a = some (.frz o (dN P w a es)) ∧ (es.length ≤ sizeLine → R (ItN a o P w es) w1.H))) := fun {v' d'} r q => by
    cases r with
    | lst h1 h2 =>
      cases q
      rename_i a vs
      exact ⟨a, rfl, .inl ⟨vs, SqL.of (x1.ok.sub _ _ h1), fun hz => h _ w1 x1 s1 (by rw [← h2.length]; exact hz) (iter_list (fun w' z => relOf.later z) (fun w' z => (relOf.later z).ok.sub _ _ ((relOf.later z).sub _ _ h1)) h2)⟩⟩
    | tup h1 h2 =>
      cases q
      rename_i a vs
      refine ⟨a, rfl, .inr (.inl ⟨vs, by rw [hK]; exact SqT.mono' x1.ok.sub h1, fun hz => ?_⟩)⟩
      rw [hK]
      exact h _ w1 x1 s1 (by rw [← h2.length]; exact hz) (iter_tup (fun w' z => relOf.later z) (fun w' z => SqT.mono' (relOf.later z).ok.sub (SqT.mono' (relOf.later z).sub h1)) h2)
    | rowt h1 h0 h2 =>
      cases q
      rename_i a _ vs
      have h1 : SqT C.K w1.S a vs := .inl (.inr ⟨_, h1⟩)
      refine ⟨a, rfl, .inr (.inl ⟨vs, by rw [hK]; exact SqT.mono' x1.ok.sub h1, fun hz => ?_⟩)⟩
      rw [hK]
      exact h _ w1 x1 s1 (by rw [← h2.length]; exact hz) (iter_tup (fun w' z => relOf.later z) (fun w' z => SqT.mono' (relOf.later z).ok.sub (SqT.mono' (relOf.later z).sub h1)) h2)
    | dcn h1 h2 h3 h4 =>
      cases q
      rename_i a o es _
      have len := (List.length_map (as := es) (f := fun x : NE => V.ref x.2.1)).symm.trans h2.length
      exact ⟨a, rfl, .inr (.inr ⟨o, _, _, es, x1.ok.sub _ _ h1, fun hz => h _ w1 x1 s1 (by rw [← len]; exact hz) (iter_dcn (fun w' z => relOf.later z) (fun w' z => (relOf.later z).ok.sub _ _ ((relOf.later z).sub _ _ h1)) h2)⟩)⟩
    | _ => cases q
  rcases hm with rfl | rfl
  · rcases r1 with r1 | ⟨p, rfl, r1, _, rfl⟩
    · exact hS r1 ei
    · cases r1.h with
      | lst h1 h2 =>
        rename_i vs
        cases ei
        exact ⟨p, rfl, .inl ⟨vs, SqL.of h1, fun hz => h _ w1 x1 s1 (by rw [← h2.length]; exact hz) (iter_list (fun w' z => Ext.later z) (fun w' z => (r1.keep z).trans h1) h2)⟩⟩
  · exact hS r1 ei

theorem evs_len {ms : List E} {env : Env} {st st' : Store} {ds : List D} (h : evs F md ms env st = .ok ds st') : ds.length = ms.length := by
  induction ms generalizing st ds with
  | nil => unfold evs at h; cases h; rfl
  | cons m ms ih =>
    unfold evs at h
    obtain ⟨d, st1, e1, h⟩ := bind_ok h
    obtain ⟨ds1, st2, e2, h⟩ := bind_ok h
    cases h
    simp [ih e2]
/-- range -/
theorem iter_rng {rel : Wd → Wd → Prop} {w : Wd} {lo : Int} {n : Nat} (hl : ∀ w', rel w w' → Later w w') : IterR rel C w (Itr lo n) (rngL lo 1 n) := fun w' x => by
  have L := hl w' x
  have len : ∀ (n : Nat) (lo : Int), (rngL lo 1 n).length = n := by
    intro n
    induction n with
    | zero => intro lo; rfl
    | succ n ih => intro lo; simp [rngL, ih]
  have get : ∀ (n : Nat) (lo : Int) (i : Nat) (d : D), (rngL lo 1 n)[i]? = some d → i < n ∧ d = .int (lo + i) := by
    intro n
    induction n with
    | zero => intro lo i d e; simp [rngL] at e
    | succ n ih =>
      intro lo i d e
      cases i with
      | zero => simp [rngL] at e; subst e; exact ⟨Nat.zero_lt_succ _, by simp⟩
      | succ i =>
        have := ih (lo + 1) i d (by simpa [rngL] using e)
        refine ⟨by omega, ?_⟩
        rw [this.2]
        congr 1
        omega
  refine ⟨fun i d e => ?_, by rw [len]; exact Nat.le_refl n⟩
  obtain ⟨hi, rfl⟩ := get n lo i d e
  refine ⟨hi, fun y H' hy => ?_⟩
  obtain ⟨rfl, rfl⟩ := hy
  exact ⟨w', Grow.refl L.ok, rfl, .int _⟩
theorem rng_len (c : Int) : ∀ (n : Nat) (lo : Int), (rngL lo c n).length = n
  | 0, _ => rfl
  | n + 1, lo => by simp [rngL, rng_len c n]
theorem at1 {w : Wd} {vs : List V} {d : D} (l : vs.length = [d].length) (r : ∀ (i : Nat) (v : V) (d' : D), vs[i]? = some v → [d][i]? = some d' → RM .kept C w v d') : ∃ v, vs = [v] ∧ RV C w v d := by
  match vs, l with
  | [v], _ => exact ⟨v, rfl, r 0 v d rfl rfl⟩
theorem at2 {w : Wd} {vs : List V} {d e : D} (l : vs.length = [d, e].length) (r : ∀ (i : Nat) (v : V) (d' : D), vs[i]? = some v → [d, e][i]? = some d' → RM .kept C w v d') : ∃ v u, vs = [v, u] ∧ RV C w v d ∧ RV C w u e := by
  match vs, l with
  | [v, u], _ => exact ⟨v, u, rfl, r 0 v d rfl rfl, r 1 u e rfl rfl⟩
theorem at3 {w : Wd} {vs : List V} {d e f : D} (l : vs.length = [d, e, f].length) (r : ∀ (i : Nat) (v : V) (d' : D), vs[i]? = some v → [d, e, f][i]? = some d' → RM .kept C w v d') : ∃ v u z, vs = [v, u, z] ∧ RV C w v d ∧ RV C w u e ∧ RV C w z f := by
  match vs, l with
  | [v, u, z], _ => exact ⟨v, u, z, rfl, r 0 v d rfl rfl, r 1 u e rfl rfl, r 2 z f rfl rfl⟩
theorem si_rng1 {tg : Expr} {p : Pos} (hm : md = .iter ∨ md = .walk) (hg : Gl X "range") (hmg : X.mg "range" = none) (ha : SA C F X .kept [a] [ma]) (hp : plainE a = true) : SI C F X md tg (.Call (.Name "range" p) [a] [] pos) (.rng [ma]) := by
  intro w env σ st d st' ds Rr ok er sr e ei h
  have e : ((evs F .kept [ma] env st).bind fun ds st => R.of (rngF ds) st) = .ok d st' := by
    rcases hm with rfl | rfl <;> (unfold ev at e; exact e)
  obtain ⟨vs0, st1, e1, e⟩ := bind_ok e
  obtain ⟨eo, rfl⟩ := of_ok e
  refine tI_of (pi_range1 hg hmg pa_tA (star_ok hp [] _)) (ha w env σ st vs0 st1 _ ok er sr e1 fun vs w1 x1 s1 l1 r1 => ?_)
  have hl := evs_len e1
  unfold rngF at eo
  split at eo <;> (try contradiction) <;> (try (exfalso; simp at hl; done))
  rename_i n
  split at eo <;> (try contradiction)
  rename_i hb
  cases eo
  cases ei
  obtain ⟨b1, b2⟩ := Bool.and_eq_true_iff.mp hb
  obtain ⟨c1, c2⟩ := inI_bounds b1
  obtain ⟨v, rfl, rv⟩ := at1 l1 r1
  cases rv
  exact ⟨n, rfl, by omega, by omega, h _ w1 x1 s1 (by rw [rng_len]; exact fit_le b2) (iter_rng fun w' z => relOf.later z)⟩
theorem si_rng2 {tg : Expr} {p : Pos} (hm : md = .iter ∨ md = .walk) (hg : Gl X "range") (hmg : X.mg "range" = none) (ha : SA C F X .kept [a, b] [ma, mb]) (hp : plainE a = true) (hp2 : plainE b = true) : SI C F X md tg (.Call (.Name "range" p) [a, b] [] pos) (.rng [ma, mb]) := by
  intro w env σ st d st' ds Rr ok er sr e ei h
  have e : ((evs F .kept [ma, mb] env st).bind fun ds st => R.of (rngF ds) st) = .ok d st' := by
    rcases hm with rfl | rfl <;> (unfold ev at e; exact e)
  obtain ⟨vs0, st1, e1, e⟩ := bind_ok e
  obtain ⟨eo, rfl⟩ := of_ok e
  refine tI_of (pi_range2 hg hmg pa_tA (by rw [star_ok hp, star_ok hp2]; rfl) (star_ok hp2 [] _)) (ha w env σ st vs0 st1 _ ok er sr e1 fun vs w1 x1 s1 l1 r1 => ?_)
  have hl := evs_len e1
  unfold rngF at eo
  split at eo <;> (try contradiction) <;> (try (exfalso; simp at hl; done))
  rename_i n n2
  split at eo <;> (try contradiction)
  rename_i hb
  cases eo
  cases ei
  obtain ⟨hb, b2⟩ := Bool.and_eq_true_iff.mp hb
  obtain ⟨b1, b3⟩ := Bool.and_eq_true_iff.mp hb
  obtain ⟨c1, c2⟩ := inI_bounds b1
  obtain ⟨c3, c4⟩ := inI_bounds b3
  obtain ⟨v, u, rfl, rv, ru⟩ := at2 l1 r1
  cases rv
  cases ru
  exact ⟨n, n2, rfl, ⟨by omega, by omega, by omega, by omega⟩, h _ w1 x1 s1 (by rw [rng_len]; exact fit_le b2) (iter_rng fun w' z => relOf.later z)⟩
theorem iter_rngC {rel : Wd → Wd → Prop} {w : Wd} {lo c : Int} {n : Nat} (hl : ∀ w', rel w w' → Later w w') : IterR rel C w (Itc lo c n) (rngL lo c n) := fun w' x => by
  have L := hl w' x
  have get : ∀ (n : Nat) (lo : Int) (i : Nat) (d : D), (rngL lo c n)[i]? = some d → i < n ∧ d = .int (lo + (i : Nat) * c) := by
    intro n
    induction n with
    | zero => intro lo i d e; simp [rngL] at e
    | succ n ih =>
      intro lo i d e
      cases i with
      | zero => simp [rngL] at e; subst e; exact ⟨Nat.zero_lt_succ _, by simp⟩
      | succ i =>
        have := ih (lo + c) i d (by simpa [rngL] using e)
        refine ⟨by omega, ?_⟩
        rw [this.2]
        congr 1
        rw [Int.natCast_add, Int.add_mul]
        omega
  refine ⟨fun i d e => ?_, by rw [rng_len]; exact Nat.le_refl n⟩
  obtain ⟨hi, rfl⟩ := get n lo i d e
  refine ⟨hi, fun y H' hy => ?_⟩
  obtain ⟨rfl, rfl⟩ := hy
  exact ⟨w', Grow.refl L.ok, rfl, .int _⟩
theorem si_rng3 {tg : Expr} {p : Pos} (hm : md = .iter ∨ md = .walk) (hg : Gl X "range") (hmg : X.mg "range" = none) (ha : SA C F X .kept [a, b, c] [ma, mb, mc]) (hp : [a, b, c].all plainE = true) : SI C F X md tg (.Call (.Name "range" p) [a, b, c] [] pos) (.rng [ma, mb, mc]) := by
  intro w env σ st d st' ds Rr ok er sr e ei h
  have e : ((evs F .kept [ma, mb, mc] env st).bind fun ds st => R.of (rngF ds) st) = .ok d st' := by
    rcases hm with rfl | rfl <;> (unfold ev at e; exact e)
  obtain ⟨vs0, st1, e1, e⟩ := bind_ok e
  obtain ⟨eo, rfl⟩ := of_ok e
  rw [List.all_cons] at hp
  obtain ⟨p1, p2⟩ := Bool.and_eq_true_iff.mp hp
  refine tI_of (pi_range3 hg hmg pa_tA (star_ok p1 _ _) (by rw [backTo_any]; exact star_all p2 _)) (ha w env σ st vs0 st1 _ ok er sr e1 fun vs w1 x1 s1 l1 r1 => ?_)
  have hl := evs_len e1
  unfold rngF at eo
  split at eo <;> (try contradiction) <;> (try (exfalso; simp at hl; done))
  rename_i n n2 n3
  split at eo <;> (try contradiction)
  rename_i hb
  cases eo
  cases ei
  obtain ⟨hb, b2⟩ := Bool.and_eq_true_iff.mp hb
  obtain ⟨hb, b4⟩ := Bool.and_eq_true_iff.mp hb
  obtain ⟨b1, b3⟩ := Bool.and_eq_true_iff.mp hb
  obtain ⟨c1, c2⟩ := inI_bounds b1
  obtain ⟨c3, c4⟩ := inI_bounds b3
  have e3 : n3 = -1 := by simpa using b4
  subst e3
  obtain ⟨v, u, z, rfl, rv, ru, rz⟩ := at3 l1 r1
  cases rv
  cases ru
  cases rz
  exact ⟨n, n2, -1, _, rfl, RgC.neg (by omega) (by omega) (by omega) (by omega), h _ w1 x1 s1 (by rw [rng_len]; exact fit_le b2) (iter_rngC fun w' z => relOf.later z)⟩
theorem zipL_get : ∀ {xs ys : List D} {i : Nat} {d : D}, (zipL xs ys)[i]? = some d → ∃ x y, xs[i]? = some x ∧ ys[i]? = some y ∧ d = .tup [x, y]
  | x :: xs, y :: ys, 0, d, e => by simp [zipL] at e; exact ⟨x, y, rfl, rfl, e.symm⟩
  | x :: xs, y :: ys, i + 1, d, e => by
    obtain ⟨u, v, h1, h2, h3⟩ := zipL_get (xs := xs) (ys := ys) (i := i) (d := d) (by simpa [zipL] using e)
    exact ⟨u, v, by simpa using h1, by simpa using h2, h3⟩
  | [], _, _, _, e => by simp [zipL] at e
  | _ :: _, [], _, _, e => by simp [zipL] at e
theorem zipL_len : ∀ (xs ys : List D), (zipL xs ys).length = min xs.length ys.length
  | x :: xs, y :: ys => by simp [zipL, zipL_len xs ys]
  | [], _ => by simp [zipL]
  | _ :: _, [] => by simp [zipL]
theorem two_tup {w' : Wd} {T : Addr} {x y : V} {dx dy : D} (ok : Wok w') (hT : w'.H T = none) (rx : RV C w' x dx) (ry : RV C w' y dy) : ∃ w'', Grow w' w'' ∧ w''.H = upd w'.H T (.tup [x, y]) ∧ RV C w'' (.ref T) (.tup [dx, dy]) :=
  have g := Grow.add (o := .tup [x, y]) ok hT
  ⟨w'.add T (.tup [x, y]), g, rfl, Wd.sT (.cons (rx.ext g.x) (.cons (ry.ext g.x) .nil))⟩
theorem iter_zipP {rel : Wd → Wd → Prop} {w : Wd} {p q : Addr} {vs us : List V} {xs ys : List D} {K : PySem.W.Frag} {k l : Bool} (hl : ∀ w', rel w w' → Later w w') (h1 : ∀ w', rel w w' → MiZ.Sq2 k K w'.H p vs) (h2 : ∀ w', rel w w' → MiZ.Sq2 l K w'.H q us) (r1 : RVs C w vs xs) (r2 : RVs C w us ys) : IterR rel C w (MiZ.ItP k l K p q) (zipL xs ys) := fun w' x => by
  have L := hl w' x
  have a1 := h1 w' x
  have a2 := h2 w' x
  refine ⟨fun i d e => ?_, ⟨vs, us, a1, a2, ?_⟩⟩
  · obtain ⟨dx, dy, e1, e2, rfl⟩ := zipL_get e
    obtain ⟨v, ev, rv⟩ := r1.get e1
    obtain ⟨u, eu, ru⟩ := r2.get e2
    refine ⟨⟨vs, us, v, u, a1, a2, ev, eu⟩, fun y H' hy => ?_⟩
    obtain ⟨T, x', y', rfl, hT, rfl, g1, g2⟩ := hy
    have q1 := g1 vs a1
    have q2 := g2 us a2
    rw [ev] at q1
    rw [eu] at q2
    cases q1
    cases q2
    exact two_tup L.ok hT (rv.mono L.sub L.phi) (ru.mono L.sub L.phi)
  · rw [zipL_len, ← r1.length, ← r2.length]
theorem sq_cast {k : Bool} {K K' : PySem.W.Frag} {H : Hp} {a : Addr} {xs : List V} (e : K' = K) (A : MiZ.Sq2 k K H a xs) : MiZ.Sq2 k K' H a xs := by subst e; exact A
theorem sqP_l {w w' : Wd} {K : PySem.W.Frag} {p : Addr} {vs : List V} (L : Later w w') (h : w.S p = some (.lst vs)) : MiZ.Sq2 true K w'.H p vs := SqL.of (L.ok.sub _ _ (L.sub _ _ h))
theorem sqP_t {w w' : Wd} {K : PySem.W.Frag} {p : Addr} {vs : List V} (L : Later w w') (h : SqT K w.S p vs) : MiZ.Sq2 false K w'.H p vs := SqT.mono' L.ok.sub (SqT.mono' L.sub h)
theorem enmL_get : ∀ {xs : List D} {k : Int} {i : Nat} {d : D}, (enmL k xs)[i]? = some d → ∃ x, xs[i]? = some x ∧ d = .tup [.int (k + i), x]
  | x :: xs, k, 0, d, e => by simp [enmL] at e; exact ⟨x, rfl, by simp [e]⟩
  | x :: xs, k, i + 1, d, e => by
    obtain ⟨u, h1, h2⟩ := enmL_get (xs := xs) (k := k + 1) (i := i) (d := d) (by simpa [enmL] using e)
    refine ⟨u, by simpa using h1, ?_⟩
    rw [h2]
    have : k + 1 + (i : Int) = k + ((i + 1 : Nat) : Int) := by omega
    rw [this]
  | [], _, _, _, e => by simp [enmL] at e
theorem enmL_len : ∀ (xs : List D) (k : Int), (enmL k xs).length = xs.length
  | x :: xs, k => by simp [enmL, enmL_len xs]
  | [], _ => by simp [enmL]
theorem iter_enmL {rel : Wd → Wd → Prop} {w : Wd} {p : Addr} {vs : List V} {xs : List D} {K : PySem.W.Frag} (hl : ∀ w', rel w w' → Later w w') (h1 : w.S p = some (.lst vs)) (r1 : RVs C w vs xs) : IterR rel C w (Ite K p) (enmL 0 xs) := fun w' x => by
  have L := hl w' x
  have a1 : SqL K w'.H p vs := SqL.of (L.ok.sub _ _ (L.sub _ _ h1))
  refine ⟨fun i d e => ?_, ⟨vs, a1, ?_⟩⟩
  · obtain ⟨dx, e1, rfl⟩ := enmL_get e
    obtain ⟨v, ev, rv⟩ := r1.get e1
    refine ⟨⟨vs, v, a1, ev⟩, fun y H' hy => ?_⟩
    obtain ⟨T, x', rfl, hT, rfl, g1⟩ := hy
    have q1 := g1 vs a1
    rw [ev] at q1
    cases q1
    rw [Int.zero_add]
    exact two_tup L.ok hT (.int _) (rv.mono L.sub L.phi)
  · rw [enmL_len, ← r1.length]; exact Nat.le_refl _
theorem iter_enmT {rel : Wd → Wd → Prop} {w : Wd} {p : Addr} {vs : List V} {xs : List D} {K : PySem.W.Frag} (hl : ∀ w', rel w w' → Later w w') (h1 : SqT K w.S p vs) (r1 : RVs C w vs xs) : IterR rel C w (IteT K p) (enmL 0 xs) := fun w' x => by
  have L := hl w' x
  have a1 : SqT K w'.H p vs := SqT.mono' L.ok.sub (SqT.mono' L.sub h1)
  refine ⟨fun i d e => ?_, ⟨vs, a1, ?_⟩⟩
  · obtain ⟨dx, e1, rfl⟩ := enmL_get e
    obtain ⟨v, ev, rv⟩ := r1.get e1
    refine ⟨⟨vs, v, a1, ev⟩, fun y H' hy => ?_⟩
    obtain ⟨T, x', rfl, hT, rfl, g1⟩ := hy
    have q1 := g1 vs a1
    rw [ev] at q1
    cases q1
    rw [Int.zero_add]
    exact two_tup L.ok hT (.int _) (rv.mono L.sub L.phi)
  · rw [enmL_len, ← r1.length]
theorem two2u {w : Wd} {vs : List V} {ds : List D} {u u' : D} (l : vs.length = ds.length) (r : ∀ (i : Nat) (v : V) (d : D), vs[i]? = some v → ds[i]? = some d → RM .kept C w v d) (e : ds.map unrow = [u, u']) : ∃ v d v' d', vs = [v, v'] ∧ RV C w v d ∧ unrow d = u ∧ RV C w v' d' ∧ unrow d' = u' := by
  match ds, vs, l with
  | [d, d'], [v, v'], _ =>
    simp at e
    exact ⟨v, d, v', d', rfl, r 0 v d rfl rfl, e.1, r 1 v' d' rfl rfl, e.2⟩
  | [], _, _ => simp at e
  | [_], _, _ => simp at e
  | _ :: _ :: _ :: _, _, _ => simp at e
theorem unrow_tup {w : Wd} {v : V} {d : D} {xs : List D} (r : RV C w v d) (e : unrow d = .tup xs) : RV C w v (.tup xs) := by
  cases d <;> first | cases e | skip
  · exact r
  · cases r with
    | rowt h1 h2 h3 => exact .tup (.inl (.inr ⟨_, h1⟩)) h3
theorem unrow_lst {w : Wd} {v : V} {d : D} {xs : List D} (r : RV C w v d) (e : unrow d = .lst xs) : RV C w v (.lst xs) := by
  cases d <;> first | cases e | skip
  exact r
theorem si_zip {elts : List Expr} {kk : Nat} {tpos p : Pos} (hK : X.K = C.K) (hm : md = .iter ∨ md = .walk) (hg : Gl X "zip") (hmg : X.mg "zip" = none) (ha : SA C F X .kept [a, b] [ma, mb]) (hp : [a, b].all plainE = true) : SI C F X md (.Tuple elts kk tpos) (.Call (.Name "zip" p) [a, b] [] pos) (.zip [ma, mb]) := by
  intro w env σ st d st' ds Rr ok er sr e ei h
  have e : ((evs F .kept [ma, mb] env st).bind fun ds st => R.of (zipF (ds.map unrow)) st) = .ok d st' := by
    rcases hm with rfl | rfl <;> (unfold ev at e; exact e)
  obtain ⟨vs0, st1, e1, e⟩ := bind_ok e
  obtain ⟨eo, rfl⟩ := of_ok e
  rw [List.all_cons] at hp
  obtain ⟨p1, p2⟩ := Bool.and_eq_true_iff.mp hp
  refine tI_of (MiZ.zips hg hmg pa_tA (star_ok p1 _ _) (by rw [backTo_any]; exact star_all p2 _)) (ha w env σ st vs0 st1 _ ok er sr e1 fun vs w1 x1 s1 l1 r1 => ?_)
  unfold zipF at eo
  split at eo <;> (try contradiction)
  all_goals
    rename_i xs ys eq
    split at eo <;> (try contradiction)
    rename_i hf
    cases eo
    cases ei
    obtain ⟨v, d1, u, d2, rfl, rv, q1, ru, q2⟩ := two2u l1 r1 eq
    have hz : (zipL xs ys).length ≤ sizeLine := by
      rw [zipL_len]
      exact Nat.le_trans (Nat.min_le_left _ _) (fit_le hf)
  · cases unrow_tup rv q1 with
    | tup h1 q1 =>
      cases unrow_tup ru q2 with
      | tup h2 q2 =>
        refine ⟨false, false, _, _, _, _, rfl, sq_cast hK (SqT.mono' x1.ok.sub h1 : MiZ.Sq2 false C.K w1.H _ _), sq_cast hK (SqT.mono' x1.ok.sub h2 : MiZ.Sq2 false C.K w1.H _ _), h _ w1 x1 s1 hz (by rw [hK]; exact iter_zipP (fun w' z => relOf.later z) (fun w' z => sqP_t (relOf.later z) h1) (fun w' z => sqP_t (relOf.later z) h2) q1 q2)⟩
  · cases unrow_lst rv q1 with
    | lst h1 q1 =>
      cases unrow_lst ru q2 with
      | lst h2 q2 =>
        refine ⟨true, true, _, _, _, _, rfl, sq_cast hK (SqL.of (x1.ok.sub _ _ h1) : MiZ.Sq2 true C.K w1.H _ _), sq_cast hK (SqL.of (x1.ok.sub _ _ h2) : MiZ.Sq2 true C.K w1.H _ _), h _ w1 x1 s1 hz (by rw [hK]; exact iter_zipP (fun w' z => relOf.later z) (fun w' z => sqP_l (relOf.later z) h1) (fun w' z => sqP_l (relOf.later z) h2) q1 q2)⟩
  · cases unrow_lst rv q1 with
    | lst h1 q1 =>
      cases unrow_tup ru q2 with
      | tup h2 q2 =>
        refine ⟨true, false, _, _, _, _, rfl, sq_cast hK (SqL.of (x1.ok.sub _ _ h1) : MiZ.Sq2 true C.K w1.H _ _), sq_cast hK (SqT.mono' x1.ok.sub h2 : MiZ.Sq2 false C.K w1.H _ _), h _ w1 x1 s1 hz (by rw [hK]; exact iter_zipP (fun w' z => relOf.later z) (fun w' z => sqP_l (relOf.later z) h1) (fun w' z => sqP_t (relOf.later z) h2) q1 q2)⟩
theorem si_enm {elts : List Expr} {kk : Nat} {tpos p : Pos} (hK : X.K = C.K) (hm : md = .iter ∨ md = .walk) (hg : Gl X "enumerate") (hmg : X.mg "enumerate" = none) (ha : SA C F X .kept [a] [ma]) (hp : plainE a = true) : SI C F X md (.Tuple elts kk tpos) (.Call (.Name "enumerate" p) [a] [] pos) (.enm [ma]) := by
  intro w env σ st d st' ds Rr ok er sr e ei h
  have e : ((evs F .kept [ma] env st).bind fun ds st => R.of (enmF ds) st) = .ok d st' := by
    rcases hm with rfl | rfl <;> (unfold ev at e; exact e)
  obtain ⟨vs0, st1, e1, e⟩ := bind_ok e
  obtain ⟨eo, rfl⟩ := of_ok e
  refine tI_of (pi_enumA hg hmg pa_tA (star_ok hp [] _)) (ha w env σ st vs0 st1 _ ok er sr e1 fun vs w1 x1 s1 l1 r1 => ?_)
  unfold enmF at eo
  split at eo <;> (try contradiction)
  · cases eo
    cases ei
    obtain ⟨v, rfl, rv⟩ := at1 l1 r1
    cases rv with
    | tup h1 q1 => exact ⟨_, _, rfl, .inr ⟨by rw [hK]; exact SqT.mono' x1.ok.sub h1, fun hz => h _ w1 x1 s1 (by rw [enmL_len, ← q1.length]; exact hz) (by rw [hK]; exact iter_enmT (fun w' z => relOf.later z) h1 q1)⟩⟩
  · cases eo
    cases ei
    obtain ⟨v, rfl, rv⟩ := at1 l1 r1
    cases rv with
    | lst h1 q1 => exact ⟨_, _, rfl, .inl ⟨SqL.of (x1.ok.sub _ _ h1), fun hz => h _ w1 x1 s1 (by rw [enmL_len, ← q1.length]; exact hz) (iter_enmL (fun w' z => relOf.later z) h1 q1)⟩⟩
end
end Mi

set_option Elab.async false
set_option linter.all false
set_option maxRecDepth 100000
set_option maxHeartbeats 1000000
/-! Mi8: targets, list comprehensions. -/
namespace Mi
open PySem PySem.Spec PyProof.Rows L2
mutual
def tslots : T → List Nat
  | .name i => [i]
  | .tup ts => tslotss ts
def tslotss : List T → List Nat
  | [] => []
  | t :: ts => tslots t ++ tslotss ts
end
section
variable {C : Ct} {F : Fns} {X : Cx} {md : Md} {a b c : Expr} {ma mb mc : E} {pos : Pos}
def tG (X : Cx) (tg : Expr) : TG := fun v σ H Q => ∀ pins s u, Inv X pins σ H s → RelV v u → wpAny (model X.prog X.w) X.A (assign tg X.env u) (fun _ s' => ∃ σ' H', Inv X pins σ' H' s' ∧ Q σ' H') X.xe s
theorem pg_tG {tg : Expr} : PG X tg (tG X tg) := ⟨fun pins s σ H v u Q I r h => h pins s u I r⟩
theorem tG_of {tg : Expr} {t : TG} {v : V} {σ : Slots} {H : Hp} {Q : Slots → Hp → Prop} (h : PG X tg t) (q : t v σ H Q) : tG X tg v σ H Q := fun pins s u I r => h.run pins s σ H v u Q I r q
def tGs (X : Cx) (ts : List Expr) : TGs := fun vs σ H Q => ∀ pins s us, Inv X pins σ H s → Vals vs us → wpAny (model X.prog X.w) X.A (assignInOrder ((assignEach ts X.env).map (·.2)) us) (fun _ s' => ∃ σ' H', Inv X pins σ' H' s' ∧ Q σ' H') X.xe s
theorem pgs_tGs {ts : List Expr} : PGs X ts (tGs X ts) := ⟨fun pins s σ H v u Q I r h => h pins s u I r⟩
theorem tGs_of {ts : List Expr} {t : TGs} {vs : List V} {σ : Slots} {H : Hp} {Q : Slots → Hp → Prop} (h : PGs X ts t) (q : t vs σ H Q) : tGs X ts vs σ H Q := fun pins s u I r => h.run pins s σ H vs u Q I r q
def OffBy (js : List Nat) (σ σ' : Slots) : Prop := σ'.length = σ.length ∧ ∀ j, j ∉ js → σ'[j]? = σ[j]?
def SG (C : Ct) (X : Cx) (tg : Expr) (t : T) : Prop := ∀ (w : Wd) (env : Env) (σ : Slots) (v : V) (d : D) (env' : Env) (Q : Slots → Hp → Prop), Wok w → EnvR C w env σ → RV C w v d → bind t d env = some env' → (∀ σ', EnvR C w env' σ' → OffBy (tslots t) σ σ' → Q σ' w.H) → tG X tg v σ w.H Q
def SGs (C : Ct) (X : Cx) (tgs : List Expr) (ts : List T) : Prop := ∀ (w : Wd) (env : Env) (σ : Slots) (vs : List V) (ds : List D) (env' : Env) (Q : Slots → Hp → Prop), Wok w → EnvR C w env σ → RVs C w vs ds → binds ts ds env = some env' → (∀ σ', EnvR C w env' σ' → OffBy (tslotss ts) σ σ' → Q σ' w.H) → tGs X tgs vs σ w.H Q
theorem sg_name {i : Nat} {x : Str} (hN : X.N.Nodup) (hi : X.N[i]? = some x) (hx : Loc X.env.scope x) (hf : X.fn x = true ∨ X.env.scope.names.lookup x = some .local) : SG C X (.Name x pos) (.name i) := by
  intro w env σ v d env' Q ok er r e h
  unfold bind at e
  split at e <;> (try contradiction)
  split at e <;> (try contradiction)
  cases e
  refine tG_of (pg_name hN hi hx hf) (h _ (er.setVal r i) ⟨by simp, fun j hj => ?_⟩)
  rw [List.getElem?_set_ne]
  intro z
  subst z
  exact hj (by simp [tslots])
def plainT : Expr → Bool
  | .Name _ _ => true
  | .Tuple _ _ _ => true
  | _ => false
theorem aeach {e : Expr} (h : plainT e = true) (es : List Expr) (env : PySem.Env) : assignEach (e :: es) env = (false, assign e env) :: assignEach es env := by
  cases e <;> first | rfl | cases h
theorem aeach_len {es : List Expr} (h : es.all plainT = true) (env : PySem.Env) : (assignEach es env).length = es.length ∧ (assignEach es env).findIdx? (·.1) = none := by
  induction es with
  | nil => exact ⟨rfl, rfl⟩
  | cons e es ih =>
    rw [List.all_cons] at h
    obtain ⟨h1, h2⟩ := Bool.and_eq_true_iff.mp h
    obtain ⟨i1, i2⟩ := ih h2
    rw [aeach h1]
    refine ⟨by simp [i1], ?_⟩
    rw [List.findIdx?_cons, i2]
    rfl
theorem sgs_nil : SGs C X [] [] := by
  intro w env σ vs ds env' Q ok er r e h
  cases r with
  | nil => cases e; exact tGs_of pgs_nil ⟨rfl, h σ er ⟨rfl, fun _ _ => rfl⟩⟩
  | cons _ _ => cases e
theorem sgs_cons {e : Expr} {es : List Expr} {t : T} {ts : List T} (h1 : SG C X e t) (h2 : SGs C X es ts) (hp : plainT e = true) : SGs C X (e :: es) (t :: ts) := by
  intro w env σ vs ds env' Q ok er r ee h
  cases r with
  | nil => cases ee
  | cons r rs =>
    rename_i v vs d ds
    unfold binds at ee
    split at ee <;> (try contradiction)
    rename_i env1 e1
    refine tGs_of (pgs_cons pg_tG pgs_tGs (by rw [aeach hp]; rfl)) ⟨v, vs, rfl, h1 w env σ v d env1 _ ok er r e1 fun σ1 er1 o1 => ?_⟩
    refine h2 w env1 σ1 vs ds env' _ ok er1 rs ee fun σ2 er2 o2 => h σ2 er2 ⟨o2.1.trans o1.1, fun j hj => ?_⟩
    have hj' : j ∉ tslots t ∧ j ∉ tslotss ts := by
      rw [tslotss] at hj
      simpa using hj
    rw [o2.2 j hj'.2, o1.2 j hj'.1]
theorem sg_tup {es : List Expr} {ts : List T} {k : Nat} (hK : X.K = C.K) (hc : X.calm = true) (h1 : SGs C X es ts) (hp : es.all plainT = true) (hl : es.length = ts.length) : SG C X (.Tuple es k pos) (.tup ts) := by
  intro w env σ v d env' Q ok er r e h
  cases d <;> (try (unfold bind at e; contradiction))
  rename_i xs
  unfold bind at e
  simp only at e
  cases r with
  | tup hq rs =>
    rename_i p vs
    have hlen : xs.length = ts.length := binds_len e
    refine tG_of (pg_tup (n := es.length) hc pgs_tGs (aeach_len hp _).1 (aeach_len hp _).2) ⟨p, vs, rfl, by rw [hK]; exact SqT.mono' ok.sub hq, by rw [rs.length, hlen, hl], ?_⟩
    exact h1 w env σ vs xs env' Q ok er rs e fun σ' er' o => h σ' er' (by rw [tslots]; exact o)
where
  binds_len : ∀ {ts : List T} {ds : List D} {env env' : Env}, binds ts ds env = some env' → ds.length = ts.length
    | [], [], _, _, _ => rfl
    | [], _ :: _, _, _, h => by simp [binds] at h
    | _ :: _, [], _, _, h => by simp [binds] at h
    | t :: ts, d :: ds, env, env', h => by
      unfold binds at h
      split at h <;> (try contradiction)
      simp [binds_len h]

/-! ### changing what one name alone holds -/
def Wd.put (w : Wd) (p : Addr) (o : HO) : Wd := ⟨w.S, upd w.H p o, w.φ⟩
def Wd.fix (w : Wd) (p : Addr) (o : HO) : Wd := ⟨upd w.S p o, w.H, w.φ⟩
theorem Wok.put {w : Wd} (h : Wok w) {p : Addr} {o : HO} (hs : w.S p = none) : Wok (w.put p o) := by
  refine ⟨fun a u e => ?_, h.nd, h.out, fun a ha => ?_⟩
  · have : a ≠ p := fun z => by subst z; rw [show w.S a = some u from e] at hs; cases hs
    show upd w.H p o a = some u
    rw [upd_ne this]; exact h.sub a u e
  · show upd w.H p o a ≠ none
    by_cases z : a = p
    · subst z; rw [upd_same]; simp
    · rw [upd_ne z]; exact h.there a ha
theorem Ext.put {w0 w : Wd} (x : Ext w0 w) {p : Addr} {o : HO} (hs : w.S p = none) (hn : w0.H p = none) : Ext w0 (w.put p o) :=
  ⟨x.ok.put hs, x.sub, x.fresh, fun a u e n => by
    have : a ≠ p := fun z => by subst z; rw [e] at hn; cases hn
    show upd w.H p o a = some u
    rw [upd_ne this]; exact x.frame a u e n, x.pre, x.new⟩
theorem Wok.fix {w : Wd} (h : Wok w) {p : Addr} {o : HO} (ho : w.H p = some o) (hf : p ∉ w.φ) : Wok (w.fix p o) := by
  refine ⟨fun a u e => ?_, h.nd, fun a ha => ?_, h.there⟩
  · by_cases z : a = p
    · subst z
      have e : upd w.S a o a = some u := e
      rw [upd_same] at e
      cases e
      exact ho
    · have e : upd w.S p o a = some u := e
      rw [upd_ne z] at e
      exact h.sub a u e
  · have : a ≠ p := fun z => hf (z ▸ ha)
    show upd w.S p o a = none
    rw [upd_ne this]; exact h.out a ha
theorem Ext.fix {w0 w : Wd} (x : Ext w0 w) {p : Addr} {o : HO} (ho : w.H p = some o) (hf : p ∉ w.φ) (hs : w.S p = none) (hn : w0.H p = none) : Ext w0 (w.fix p o) := by
  refine ⟨x.ok.fix ho hf, fun a u e => ?_, fun a u e => ?_, x.frame, x.pre, x.new⟩
  · have e1 := x.sub a u e
    have : a ≠ p := fun z => by subst z; rw [e1] at hs; cases hs
    show upd w.S p o a = some u
    rw [upd_ne this]; exact e1
  · by_cases z : a = p
    · subst z; exact .inr hn
    · have e : upd w.S p o a = some u := e
      rw [upd_ne z] at e
      exact x.fresh a u e
theorem Later.put {w : Wd} (h : Wok w) {p : Addr} {o : HO} (hs : w.S p = none) : Later w (w.put p o) := ⟨h.put hs, fun _ _ e => e, fun _ _ e => e⟩
theorem Later.fix {w : Wd} (h : Wok w) {p : Addr} {o : HO} (ho : w.H p = some o) (hf : p ∉ w.φ) (hs : w.S p = none) : Later w (w.fix p o) := ⟨h.fix ho hf, fun a u e => by
  have : a ≠ p := fun z => by subst z; rw [e] at hs; cases hs
  show upd w.S p o a = some u
  rw [upd_ne this]; exact e, fun _ _ e => e⟩
theorem RVs.later {w w' : Wd} {vs : List V} {ds : List D} (r : RVs C w vs ds) (L : Later w w') : RVs C w' vs ds := r.mono L.sub L.phi
theorem RV.later {w w' : Wd} {v : V} {d : D} (r : RV C w v d) (L : Later w w') : RV C w' v d := r.mono L.sub L.phi
theorem StR.later {w w' : Wd} {st : Store} (h : StR C w st) (L : Later w w') (hp : w'.φ = w.φ) (hh : ∀ a ∈ w.φ, w'.H a = w.H a) : StR C w' st :=
  ⟨by rw [hp]; exact h.len, fun n c a e1 e2 => by
    rw [hp] at e2
    exact (h.at_ n c a e1 e2).mono L.sub L.phi (hh a (List.mem_of_getElem? e2))⟩
theorem StR.put {w : Wd} {st : Store} (h : StR C w st) (ok : Wok w) {p : Addr} {o : HO} (hs : w.S p = none) (hf : p ∉ w.φ) : StR C (w.put p o) st := h.later (Later.put ok hs) rfl fun a ha => upd_ne (fun z => hf (z ▸ ha))
theorem StR.fix {w : Wd} {st : Store} (h : StR C w st) (ok : Wok w) {p : Addr} {o : HO} (ho : w.H p = some o) (hs : w.S p = none) (hf : p ∉ w.φ) : StR C (w.fix p o) st := h.later (Later.fix ok ho hf hs) rfl fun a ha => rfl

/-! ### list comprehensions -/
theorem wipe_get {σ : Slots} : ∀ (vs : List Nat) (i : Nat), (L2.wipe σ vs)[i]? = if i ∈ vs ∧ i < σ.length then some none else σ[i]?
  | [], i => by simp [L2.wipe]
  | v :: vs, i => by
    unfold L2.wipe
    rw [List.getElem?_set, L2.wipe_length, wipe_get vs i]
    by_cases h : v = i
    · subst h
      by_cases hl : v < σ.length <;> simp [hl]
    · simp only [h, if_false]
      have : i ≠ v := fun z => h z.symm
      simp [this]
theorem wipe_off {σ σ' : Slots} {js vs : List Nat} (o : OffBy js σ σ') (hs : ∀ j ∈ js, j ∈ vs) : L2.wipe σ' vs = L2.wipe σ vs := by
  apply List.ext_getElem?
  intro i
  rw [wipe_get, wipe_get, o.1]
  by_cases hi : i ∈ vs ∧ i < σ.length
  · rw [if_pos hi, if_pos hi]
  · rw [if_neg hi, if_neg hi]
    by_cases hv : i ∈ vs
    · have hl : ¬ i < σ.length := fun z => hi ⟨hv, z⟩
      rw [List.getElem?_eq_none (by rw [o.1]; omega), List.getElem?_eq_none (by omega)]
    · exact o.2 i (fun z => hv (hs i z))
theorem wipe_wipe {σ : Slots} (vs : List Nat) : L2.wipe (L2.wipe σ vs) vs = L2.wipe σ vs := by
  apply List.ext_getElem?
  intro i
  rw [wipe_get, wipe_get, L2.wipe_length]
  split
  · rfl
  · rfl
/-- a row of tests: none or one -/
def STs (C : Ct) (F : Fns) (X : Cx) (ifs : List Expr) (ms : List E) : Prop := (ifs = [] ∧ ms = []) ∨ ∃ c m, ifs = [c] ∧ ms = [m] ∧ ST C F X c m
def tTs (X : Cx) (ifs : List Expr) : TT := fun σ H Q => ∀ pins s, Inv X pins σ H s → wpAny (model X.prog X.w) X.A (forIn ifs true fun c r => if r = true then do let ok ← isTrue c X.env (eval c X.env); pure (ForInStep.yield ok) else pure (ForInStep.yield r)) (TP X pins σ Q) X.xe s
theorem pts_tTs {ifs : List Expr} : PTs X ifs (tTs X ifs) := ⟨fun pins s σ H Q I h => h pins s I⟩
theorem tTs_of {ifs : List Expr} {t : TT} {σ : Slots} {H : Hp} {Q : Bool → Hp → Prop} (h : PTs X ifs t) (q : t σ H Q) : tTs X ifs σ H Q := fun pins s I => h.run pins s σ H Q I q
/-- every block of the comprehension -/
def Blks (X : Cx) (scope : Scope) (P : Cx → Prop) : Prop := ∀ (s : Shared) (H : Hp) (Ca : Addr) (cl : List (Str × Addr)) (fp : List Addr), P (X.blk s H scope (compEnvC scope cl Ca X.env) fp)
abbrev lcG (X : Cx) (scope : Scope) (tg : Expr) : TG := fun v σ H Q => Blks X scope fun Y => tG Y tg v σ H Q
abbrev lcT (X : Cx) (scope : Scope) (ifs : List Expr) : TT := fun σ H Q => Blks X scope fun Y => tTs Y ifs σ H Q
abbrev lcE (X : Cx) (scope : Scope) (elt : Expr) : TE := fun σ H Q => Blks X scope fun Y => tE Y elt σ H Q
theorem lc_read {elt tg iter : Expr} {ifs : List Expr} {scope : Scope} {own : List (Str × Nat)} {melt mit : E} {mifs : List E} {t : T}
    (hi : SI C F X .iter tg iter mit) (hg : Blks X scope fun Y => SG C Y tg t) (ht : Blks X scope fun Y => STs C F Y ifs mifs) (he : Blks X scope fun Y => SE C F Y .kept elt melt) (hts : ∀ j ∈ tslots t, j ∈ own.map (·.2))
    {w : Wd} {env : Env} {σ : Slots} {st st' : Store} {d : D} {Q : VK} (okw : Wok w) (er : EnvR C w env σ) (sr : StR C w st) (e : ev F md (.lc melt (own.map (·.2)) t mit mifs) env st = .ok d st')
    (h : ∀ v w', Ext w w' → StR C w' st' → RM md C w' v d → Q v w'.H) : tLc (tI X tg iter) (lcG X scope tg) (lcT X scope ifs) (lcE X scope elt) (own.map (·.2)) σ w.H Q := by
  unfold ev at e
  obtain ⟨dx, st1, e1, e⟩ := bind_ok e
  split at e <;> (try contradiction)
  rename_i xs ex
  refine hi w env σ st dx st1 xs _ okw er sr e1 ex fun J w1 x1 s1 hn it => fun p hp => ?_
  have er1 := er.ext x1
  have ns1 : w1.S p = none := by
    cases q : w1.S p with
    | none => rfl
    | some u => rw [x1.ok.sub p u q] at hp; cases hp
  have np1 : p ∉ w1.φ := fun z => x1.ok.there p z hp
  obtain ⟨turn, hturn⟩ : ∃ turn : D → Store → R (Option D), turn = (fun x st => match bind t x (wipe env (own.map (·.2))) with
      | some env2 => (evs F .read mifs env2 st).bind fun bs st => (match bs with
        | [] => (ev F .kept melt env2 st).bind fun d st => .ok (some d) st
        | [.bl true] => (ev F .kept melt env2 st).bind fun d st => .ok (some d) st
        | [.bl false] => .ok none st
        | _ => .bad)
      | none => .bad) := ⟨_, rfl⟩
  have e : lcGo turn xs [] st1 = .ok d st' := by rw [hturn]; exact e
  refine ⟨fun i m H => m = xs.length - i ∧ i ≤ xs.length ∧ ∃ (wi : Wd) (sti : Store) (acc : List D) (accV : List V), wi.H = H ∧ Ext w1 wi ∧ wi.S p = none ∧ p ∉ wi.φ ∧ wi.H p = some (.lst accV) ∧ RVs C wi accV acc ∧ acc.length ≤ i ∧ StR C wi sti ∧ lcGo turn (xs.drop i) acc sti = .ok d st', ⟨xs.length, by simp, Nat.zero_le _, w1.put p (.lst []), st1, [], [], rfl, Ext.put (Ext.refl x1.ok) ns1 hp, ns1, np1, upd_same, .nil, Nat.le_refl _, s1.put x1.ok ns1 np1, e⟩, ?_⟩
  rintro i m H ⟨rfl, hi, wi, sti, acc, accV, rfl, xi, si, fi, hD, ra, la, sri, ei⟩
  obtain ⟨it1, it2⟩ := it wi xi
  by_cases hlt : i < xs.length
  · have hget : xs[i]? = some xs[i] := List.getElem?_eq_getElem hlt
    obtain ⟨hgo, hy⟩ := it1 i _ hget
    rw [List.drop_eq_getElem_cons hlt] at ei
    unfold lcGo at ei
    obtain ⟨o, st2, et, ei⟩ := bind_ok ei
    refine .inr ⟨hgo, fun H' => ∃ (wi : Wd) (sti : Store) (acc : List D) (accV : List V), wi.H = H' ∧ Ext w1 wi ∧ wi.S p = none ∧ p ∉ wi.φ ∧ wi.H p = some (.lst accV) ∧ RVs C wi accV acc ∧ acc.length ≤ i + 1 ∧ StR C wi sti ∧ lcGo turn (xs.drop (i + 1)) acc sti = .ok d st',
      fun H' q => ⟨xs.length - (i + 1), by omega, rfl, hlt, q⟩, fun x H' hyl => ?_⟩
    obtain ⟨w2, g2, rfl, rx⟩ := hy x H' hyl
    have x2 := xi.trans g2.x
    rw [hturn] at et
    simp only at et
    split at et <;> (try contradiction)
    rename_i env2 eb
    intro sB HB CB clB fpB
    refine hg sB HB CB clB fpB w2 (wipe env (own.map (·.2))) (L2.wipe σ (own.map (·.2))) x xs[i] env2 _ g2.x.ok ((er1.ext x2).wipe _) rx eb fun σ2 er2 o2 => ?_
    refine ⟨?_, ?_⟩
    · rw [wipe_off o2 hts, wipe_wipe]
    -- what the new list is behind a step that keeps it
    have keepD : ∀ {wa wb : Wd}, Ext wa wb → wa.S p = none → p ∉ wa.φ → wa.H p = some (.lst accV) → wb.S p = none ∧ p ∉ wb.φ ∧ wb.H p = some (.lst accV) := fun {wa wb} xx h1 h2 h3 => by
      refine ⟨?_, fun z => ?_, xx.frame p _ h3 h2⟩
      · cases q : wb.S p with
        | none => rfl
        | some u =>
          rcases xx.fresh p u q with z | z
          · rw [h1] at z; cases z
          · rw [h3] at z; cases z
      · rcases xx.new p z with z | z
        · exact h2 z
        · rw [h3] at z; cases z
    obtain ⟨k1, k2, k3⟩ := keepD g2.x si fi hD
    have s2 : StR C w2 sti := sri.grow g2
    -- the element
    have elem : ∀ {w3 : Wd} {st3 : Store}, Ext w2 w3 → StR C w3 st3 → ((ev F .kept melt env2 st3).bind fun d st => R.ok (some d) st) = .ok o st2 →
        Blks X scope fun Y => tE Y elt σ2 w3.H fun y H4 => ∃ acc, H4 p = some (.lst acc) ∧ acc.length < sizeLine ∧ ∃ (wi : Wd) (sti : Store) (acc' : List D) (accV : List V), wi.H = upd H4 p (.lst (acc ++ [y])) ∧ Ext w1 wi ∧ wi.S p = none ∧ p ∉ wi.φ ∧ wi.H p = some (.lst accV) ∧ RVs C wi accV acc' ∧ acc'.length ≤ i + 1 ∧ StR C wi sti ∧ lcGo turn (xs.drop (i + 1)) acc' sti = .ok d st' := fun {w3 st3} x3 s3 ee => by
      obtain ⟨dv, st4, e4, ee⟩ := bind_ok ee
      cases ee
      intro sB HB CB clB fpB
      obtain ⟨l1, l2, l3⟩ := keepD x3 k1 k2 k3
      refine he sB HB CB clB fpB w3 env2 σ2 st3 dv st2 _ x3.ok (er2.ext x3) s3 e4 fun v w4 x4 s4 r4 => ?_
      obtain ⟨m1, m2, m3⟩ := keepD x4 l1 l2 l3
      have r4 : RV C w4 v dv := r4
      have ra4 : RVs C w4 accV acc := ((ra.ext g2.x).ext x3).ext x4
      refine ⟨accV, m3, by rw [ra.length]; omega, w4.put p (.lst (accV ++ [v])), st2, acc ++ [dv], accV ++ [v], rfl, Ext.put ((x2.trans x3).trans x4) m1 hp, m1, m2, upd_same, (ra4.append (.cons r4 .nil)).later (Later.put x4.ok m1), by simp; omega, s4.put x4.ok m1 m2, ei⟩
    -- the tests
    rcases Classical.em (mifs = []) with hm | hm
    · subst hm
      have et : ((ev F .kept melt env2 sti).bind fun d st => R.ok (some d) st) = .ok o st2 := et
      intro sB HB CB clB fpB
      rcases ht sB HB CB clB fpB with ⟨hi0, _⟩ | ⟨c, m, _, hm, _⟩
      · subst hi0
        refine tTs_of pts_nil ?_
        unfold tYes
        dsimp only
        rw [if_pos rfl]
        exact elem (Ext.refl g2.x.ok) s2 et
      · cases hm
    · intro sB HB CB clB fpB
      rcases ht sB HB CB clB fpB with ⟨_, hm0⟩ | ⟨c, m, hi0, hm0, hst⟩
      · exact absurd hm0 hm
      · subst hi0
        subst hm0
        obtain ⟨bs, st3, e3, et⟩ := bind_ok et
        unfold evs at e3
        obtain ⟨b1, st4, e4, e3⟩ := bind_ok e3
        unfold evs at e3
        cases e3
        have hb : ∃ b, b1 = .bl b := by
          cases b1 <;> first | exact ⟨_, rfl⟩ | (simp at et)
        obtain ⟨bb, rfl⟩ := hb
        refine tTs_of (pts_one pt_tT) (hst w2 env2 σ2 sti (.bl bb) st3 _ g2.x.ok er2 s2 e4 (fun b w3 x3 s3 eb => ?_) ⟨bb, rfl⟩)
        cases eb
        cases bb with
        | true =>
          rw [if_pos rfl]
          exact elem x3 s3 et
        | false =>
          rw [if_neg (by decide)]
          cases et
          obtain ⟨l1, l2, l3⟩ := keepD x3 k1 k2 k3
          exact ⟨w3, st2, acc, accV, rfl, x2.trans x3, l1, l2, l3, (ra.ext g2.x).ext x3, by omega, s3, ei⟩
  · have hi2 : i = xs.length := by omega
    subst hi2
    rw [List.drop_of_length_le (Nat.le_refl _)] at ei
    unfold lcGo at ei
    cases ei
    refine .inl ⟨it2, ?_⟩
    have xf := Ext.fix (o := .lst accV) xi hD fi si hp
    exact h (.ref p) (wi.fix p (.lst accV)) (x1.trans xf) (sri.fix xi.ok hD si fi) (RV.rm md (.lst upd_same (ra.later (Later.fix xi.ok hD fi si))))
theorem lcg_ok {scope : Scope} {tg : Expr} : ∀ (s : Shared) (H : Hp) (Ca : Addr) (cl : List (Str × Addr)) (fp : List Addr), PG (X.blk s H scope (compEnvC scope cl Ca X.env) fp) tg (lcG X scope tg) := fun s H Ca cl fp => ⟨fun pins s' σ H' v u Q I r q => q s H Ca cl fp pins s' u I r⟩
theorem lct_ok {scope : Scope} {ifs : List Expr} : ∀ (s : Shared) (H : Hp) (Ca : Addr) (cl : List (Str × Addr)) (fp : List Addr), PTs (X.blk s H scope (compEnvC scope cl Ca X.env) fp) ifs (lcT X scope ifs) := fun s H Ca cl fp => ⟨fun pins s' σ H' Q I q => q s H Ca cl fp pins s' I⟩
theorem lce_ok {scope : Scope} {elt : Expr} : ∀ (s : Shared) (H : Hp) (Ca : Addr) (cl : List (Str × Addr)) (fp : List Addr), PE (X.blk s H scope (compEnvC scope cl Ca X.env) fp) elt (lcE X scope elt) := fun s H Ca cl fp => ⟨fun pins s' σ H' Q I q => q s H Ca cl fp pins s' I⟩
theorem se_lc {elt tg iter : Expr} {ifs : List Expr} {scope : Scope} {own : List (Str × Nat)} {melt mit : E} {mifs : List E} {t : T} (hc : X.calm = true) (hN : X.N.Nodup) (ok : BlkOk X.N X.env.scope scope own)
    (hi : SI C F X .iter tg iter mit) (hg : Blks X scope fun Y => SG C Y tg t) (ht : Blks X scope fun Y => STs C F Y ifs mifs) (he : Blks X scope fun Y => SE C F Y .kept elt melt) (hts : ∀ j ∈ tslots t, j ∈ own.map (·.2))
    (hs : ∀ x, foldedSetIterable iter X.env x = pure x) : SE C F X md (.ListComp elt [⟨tg, iter, ifs, 0⟩] scope pos) (.lc melt (own.map (·.2)) t mit mifs) := fun w env σ st d st' Q okw er sr e h =>
  tE_of (pe_lc hc hN pi_tI ok lcg_ok lct_ok lce_ok hs) (lc_read hi hg ht he hts okw er sr e h)
end
end Mi

set_option Elab.async false
set_option linter.all false
set_option maxRecDepth 100000
set_option maxHeartbeats 1000000
/-! Mi8b: len({e for a in s for b in a}). -/
namespace Mi
open PySem PySem.Spec PyProof.Rows L2
/-! plain -/
theorem seen_mem : ∀ (ns acc : List Int) (x : Int), x ∈ ns.foldl (fun acc x => if x ∈ acc then acc else acc ++ [x]) acc ↔ x ∈ acc ∨ x ∈ ns
  | [], acc, x => by simp
  | n :: ns, acc, x => by
    rw [List.foldl_cons, seen_mem ns]
    by_cases h : n ∈ acc
    · rw [if_pos h]
      constructor
      · rintro (q | q)
        · exact .inl q
        · exact .inr (List.mem_cons_of_mem _ q)
      · rintro (q | q)
        · exact .inl q
        · rcases List.mem_cons.mp q with q | q
          · exact .inl (q ▸ h)
          · exact .inr q
    · rw [if_neg h]
      simp [or_assoc]
theorem sizeI_snoc (ns : List Int) (c : Int) : sizeI (ns ++ [c]) = if c ∈ ns then sizeI ns else sizeI ns + 1 := by
  unfold sizeI
  rw [List.foldl_append, List.foldl_cons, List.foldl_nil]
  by_cases h : c ∈ ns
  · rw [if_pos h, if_pos ((seen_mem ns [] c).mpr (.inr h))]
  · rw [if_neg h, if_neg (fun q => h (((seen_mem ns [] c).mp q).resolve_left (by simp)))]
    simp
theorem sizeI_le (ns : List Int) : sizeI ns ≤ ns.length := by
  have aux : ∀ (ns acc : List Int), (ns.foldl (fun acc x => if x ∈ acc then acc else acc ++ [x]) acc).length ≤ acc.length + ns.length := by
    intro ns
    induction ns with
    | nil => intro acc; exact Nat.le_refl _
    | cons n ns ih =>
      intro acc
      rw [List.foldl_cons]
      by_cases h : n ∈ acc
      · rw [if_pos h]; have := ih acc; simp; omega
      · rw [if_neg h]; have := ih (acc ++ [n]); simp at this ⊢; omega
  unfold sizeI
  simpa using aux ns []
theorem lcGo_pre {turn : D → Store → R (Option D)} : ∀ (xs acc : List D) (st : Store) (d : D) (st' : Store), lcGo turn xs acc st = .ok d st' → ∃ s, d = .lst (acc ++ s)
  | [], acc, st, d, st', h => by cases h; exact ⟨[], by simp⟩
  | x :: xs, acc, st, d, st', h => by
    unfold lcGo at h
    obtain ⟨o, st1, e1, h⟩ := bind_ok h
    cases o with
    | none => exact lcGo_pre xs acc st1 d st' h
    | some y =>
      obtain ⟨s, e⟩ := lcGo_pre xs (acc ++ [y]) st1 d st' h
      exact ⟨y :: s, by rw [e, List.append_assoc]; rfl⟩
section
variable {C : Ct} {F : Fns} {X : Cx} {md : Md}
/-- len of a set of ints -/
theorem call_lenS : CallR X (.builtin "len") (fun xs H Q => ∃ a S n, xs = [.ref a] ∧ H a = some (L2.SetO X.w a S n) ∧ Q (.int (n : Nat)) H) := by
  intro pins s σ H xs us Q I r q
  obtain ⟨a, S, n, rfl, ha, q⟩ := q
  obtain ⟨u, rfl, rx⟩ := vals1 r
  cases rx
  obtain ⟨o, es, ep, t, ho, hex, hd, _, _, _, hsz, hf, hn, _, _⟩ := L2.setO_get I ha
  have hb : scanBound = 4096 := rfl
  exact call_len_set ho hex hd hf (by omega) ⟨.int (n : Nat), H, I.tok _, ⟨_, by rw [hn]⟩, q⟩
theorem flatI_snoc (acc zs : List D) : flatI (acc ++ [.lst zs]) = flatI acc ++ zs.map intOf := by
  unfold flatI
  rw [List.flatMap_append, List.flatMap_cons, List.flatMap_nil, List.append_nil]
  rfl
theorem ints_get {zs a s : List D} {d : D} (h : zs.all isInt = true) (e : zs = a ++ [d] ++ s) : ∃ c, d = .int c := by
  have := List.all_eq_true.mp h d (by rw [e]; simp)
  cases d <;> first | exact ⟨_, rfl⟩ | cases this
theorem rows_get {zs a s : List D} {d : D} (h : zs.all isIntL = true) (e : zs = a ++ [d] ++ s) : ∃ l, d = .lst l ∧ l.all isInt = true := by
  have := List.all_eq_true.mp h d (by rw [e]; simp)
  cases d <;> first | exact ⟨_, rfl, this⟩ | cases this
abbrev lcI (X : Cx) (scope : Scope) (tg iter : Expr) : TI := fun σ H R => Blks X scope fun Y => tI Y tg iter σ H R
theorem lci_ok {scope : Scope} {tg iter : Expr} : Blks X scope fun Y => PI Y tg iter (lcI X scope tg iter) := fun s H Ca cl fp => ⟨fun pins s' σ H' R I q => q s H Ca cl fp pins s' I⟩
theorem keepO {p : Addr} {o : HO} {wa wb : Wd} (xx : Ext wa wb) (h1 : wa.S p = none) (h2 : p ∉ wa.φ) (h3 : wa.H p = some o) : wb.S p = none ∧ p ∉ wb.φ ∧ wb.H p = some o := by
  refine ⟨?_, fun z => ?_, xx.frame p _ h3 h2⟩
  · cases q : wb.S p with
    | none => rfl
    | some u =>
      rcases xx.fresh p u q with z | z
      · rw [h1] at z; cases z
      · rw [h3] at z; cases z
  · rcases xx.new p z with z | z
    · exact h2 z
    · rw [h3] at z; cases z
/-- an object may change that no name alone holds -/
theorem EnvR.putN {w : Wd} {env : Env} {σ : L2.St} (h : EnvR C w env σ) (ok : Wok w) {p : Addr} {o : HO} (hs : w.S p = none) (hn : ∀ (j : Nat) (s : Sl), env[j]? = some s → isOwn s = true → σ[j]? ≠ some (some (.ref p))) : EnvR C (w.put p o) env σ := by
  have L := Later.put (o := o) ok hs
  have own : ∀ {a : Addr} {d : D}, a ≠ p → OwR C w a d → OwR C (w.put p o) a d := fun {a d} hne r => ⟨r.s, r.f, r.h.mono L.sub L.phi (upd_ne hne)⟩
  refine ⟨h.len, fun i s o' e1 e2 => ?_, h.one⟩
  have := h.at_ i s o' e1 e2
  cases s with
  | emp => trivial
  | val d => obtain ⟨v, e, r⟩ := this; exact ⟨v, e, r.mono L.sub L.phi⟩
  | own d => obtain ⟨a, e, r⟩ := this; exact ⟨a, e, own (fun z => hn i _ e1 rfl (by rw [e2, e, z])) r⟩
  | lck d => obtain ⟨a, e, r⟩ := this; exact ⟨a, e, own (fun z => hn i _ e1 rfl (by rw [e2, e, z])) r⟩
/-- the set that holds just ns -/
abbrev SetN (X : Cx) (p : Addr) (ns : List Int) : HO := L2.SetO X.w p (fun k => decide (k ∈ ns)) (sizeI ns)
theorem setN_add {p : Addr} (ns : List Int) (c : Int) : L2.SetO X.w p (fun j => decide (j ∈ ns) || decide (j = c)) (if decide (c ∈ ns) = true then sizeI ns else sizeI ns + 1) = SetN X p (ns ++ [c]) := by
  unfold SetN
  rw [sizeI_snoc]
  congr 1
  · funext k; simp
  · simp
abbrev Held (C : Ct) (X : Cx) (p : Addr) (w1 : Wd) (ns : List Int) (turn : D → Store → R (Option D)) (xs acc : List D) (fin : D) (st' : Store) (H : Hp) : Prop := ∃ (wi : Wd) (sti : Store), wi.H = H ∧ Ext w1 wi ∧ wi.S p = none ∧ p ∉ wi.φ ∧ wi.H p = some (SetN X p ns) ∧ StR C wi sti ∧ lcGo turn xs acc sti = .ok fin st'
abbrev Held1 (C : Ct) (X : Cx) (p : Addr) (w1 w3 : Wd) (env : Env) (σ : L2.St) (ns : List Int) (turn : D → Store → R (Option D)) (xs acc : List D) (fin : D) (st' : Store) (H : Hp) : Prop := ∃ (wi : Wd) (sti : Store), wi.H = H ∧ Ext w1 wi ∧ Later w3 wi ∧ EnvR C wi env σ ∧ wi.S p = none ∧ p ∉ wi.φ ∧ wi.H p = some (SetN X p ns) ∧ StR C wi sti ∧ lcGo turn xs acc sti = .ok fin st'
theorem se_set2 {elt tg iter tg1 iter1 : Expr} {scope : Scope} {own : List (Str × Nat)} {vs1 : List Nat} {melt mit : E} {v0 : Nat} {t1 : T} {p0 pos cpos : Pos} (hc : X.calm = true) (hN : X.N.Nodup) (ok : BlkOk X.N X.env.scope scope own) (hgl : Gl X "len") (hm : X.mg "len" = none)
    (hi : SI C F X .iter tg iter mit) (hg : Blks X scope fun Y => SG C Y tg (.name v0)) (hi1 : Blks X scope fun Y => SI C F Y .walk tg1 iter1 (.var v0)) (hg1 : Blks X scope fun Y => SG C Y tg1 t1) (he : Blks X scope fun Y => SE C F Y .kept elt melt)
    (hts : v0 ∈ own.map (·.2)) (hts1 : ∀ j ∈ tslots t1, j ∈ vs1) (hv : ∀ j ∈ vs1, j ∈ own.map (·.2)) (hs : ∀ x, foldedSetIterable iter X.env x = pure x) (hs1 : ∀ env x, foldedSetIterable iter1 env x = pure x) :
    SE C F X md (.Call (.Name "len" p0) [.SetComp elt [⟨tg, iter, [], 0⟩, ⟨tg1, iter1, [], 0⟩] scope pos] [] cpos) (.bi .setLen2 [.lc (.lc melt vs1 t1 (.var v0) []) (own.map (·.2)) (.name v0) mit []]) := by
  intro w env σ st d st' Q okw er sr e h
  unfold ev at e
  obtain ⟨ds, st1, e1, e⟩ := bind_ok e
  unfold evs at e1
  obtain ⟨d0, st2, e2, e1⟩ := bind_ok e1
  unfold evs at e1
  cases e1
  obtain ⟨er2, rfl⟩ := of_ok e
  unfold ev at e2
  obtain ⟨dx, st3, e3, e2⟩ := bind_ok e2
  split at e2 <;> (try contradiction)
  rename_i xs ex
  obtain ⟨turn, hturn⟩ : ∃ turn : D → Store → R (Option D), turn = (fun x st => match bind (.name v0) x (wipe env (own.map (·.2))) with
      | some env2 => (evs F .read [] env2 st).bind fun bs st => (match bs with
        | [] => (ev F .kept (.lc melt vs1 t1 (.var v0) []) env2 st).bind fun d st => .ok (some d) st
        | [.bl true] => (ev F .kept (.lc melt vs1 t1 (.var v0) []) env2 st).bind fun d st => .ok (some d) st
        | [.bl false] => .ok none st
        | _ => .bad)
      | none => .bad) := ⟨_, rfl⟩
  have e2 : lcGo turn xs [] st3 = .ok d0 st1 := by rw [hturn]; exact e2
  obtain ⟨rows, rfl⟩ := lcGo_pre xs [] st3 d0 st1 e2
  rw [List.nil_append] at e2 er2
  have er2 : (if (rows.all isIntL && Nat.ble (flatI rows).length 1000) = true then some (D.int (sizeI (flatI rows))) else none) = some d := er2
  split at er2 <;> (try contradiction)
  rename_i hall
  cases er2
  rw [Bool.and_eq_true] at hall
  obtain ⟨hall, hfew⟩ := hall
  have hfew := Nat.le_of_ble_eq_true hfew
  refine tE_of (pe_callB call_lenS hgl hm boot_len (pa_cons (MiC.pe_sc2 hc hN pi_tI ok hv lcg_ok lci_ok lcg_ok lce_ok hs hs1) pa_nil)) ?_
  refine hi w env σ st dx st3 xs _ okw er sr e3 ex fun J w1 x1 s1 hn it => fun p hp => ?_
  have era := er.ext x1
  have ns1 : w1.S p = none := by
    cases q : w1.S p with
    | none => rfl
    | some u => rw [x1.ok.sub p u q] at hp; cases hp
  have np1 : p ∉ w1.φ := fun z => x1.ok.there p z hp
  have hsb : scanBound = 4096 := rfl
  have e0 : MiC.nul X.w p = SetN X p [] := by
    show L2.SetO X.w p (fun _ => false) 0 = L2.SetO X.w p (fun k => decide (k ∈ ([] : List Int))) 0
    congr 1
  rw [e0]
  refine ⟨fun i m H => m = xs.length - i ∧ i ≤ xs.length ∧ ∃ acc, Held C X p w1 (flatI acc) turn (xs.drop i) acc (.lst rows) st1 H, ⟨xs.length, by simp, Nat.zero_le _, [], w1.put p (SetN X p []), st3, rfl, Ext.put (Ext.refl x1.ok) ns1 hp, ns1, np1, upd_same, s1.put x1.ok ns1 np1, e2⟩, ?_⟩
  rintro i m H ⟨rfl, hil, acc, wi, sti, rfl, xi, si, fi, hD, sri, ei⟩
  obtain ⟨it1, it2⟩ := it wi xi
  by_cases hlt : i < xs.length
  case neg =>
    have hi2 : i = xs.length := by omega
    subst hi2
    rw [List.drop_of_length_le (Nat.le_refl _)] at ei
    unfold lcGo at ei
    cases ei
    refine .inl ⟨it2, p, _, _, rfl, hD, ?_⟩
    exact h _ wi (x1.trans xi) sri (RV.rm md (.int _))
  case pos =>
    have hget : xs[i]? = some xs[i] := List.getElem?_eq_getElem hlt
    obtain ⟨hgo, hy⟩ := it1 i _ hget
    rw [List.drop_eq_getElem_cons hlt] at ei
    unfold lcGo at ei
    obtain ⟨o, st4, et, ei⟩ := bind_ok ei
    refine .inr ⟨hgo, fun H' => ∃ acc, Held C X p w1 (flatI acc) turn (xs.drop (i + 1)) acc (.lst rows) st1 H', fun H' q => ⟨xs.length - (i + 1), by omega, rfl, hlt, q⟩, fun x Hb hyl => ?_⟩
    obtain ⟨w2, g2, rfl, rx⟩ := hy x Hb hyl
    have x2 := xi.trans g2.x
    rw [hturn] at et
    simp only at et
    split at et <;> (try contradiction)
    rename_i env2 eb
    have et : ((ev F .kept (.lc melt vs1 t1 (.var v0) []) env2 sti).bind fun d st => R.ok (some d) st) = .ok o st4 := et
    obtain ⟨dv, st5, e5, et⟩ := bind_ok et
    cases et
    -- the row
    obtain ⟨s, hrow⟩ := lcGo_pre _ _ _ _ _ (show lcGo turn (xs.drop (i + 1)) (acc ++ [dv]) st4 = .ok (.lst rows) st1 from ei)
    injection hrow with hrow
    obtain ⟨zs, rfl, hzs⟩ := rows_get hall hrow
    have hlen : (flatI acc).length + zs.length ≤ 1000 := by
      have : (flatI rows).length = (flatI acc).length + zs.length + (flatI s).length := by
        rw [hrow]
        show (List.flatMap rowI (acc ++ [D.lst zs] ++ s)).length = _
        rw [List.flatMap_append, List.length_append]
        have := congrArg List.length (flatI_snoc acc zs)
        rw [List.length_append, List.length_map] at this
        exact congrArg (· + _) this
      omega
    intro sB HB CB clB fpB
    refine hg sB HB CB clB fpB w2 (wipe env (own.map (·.2))) (L2.wipe σ (own.map (·.2))) x xs[i] env2 _ g2.x.ok ((era.ext x2).wipe _) rx eb fun σ2 erb o2 => ?_
    refine ⟨by rw [wipe_off o2 (fun j hj => by rw [show tslots (T.name v0) = [v0] from rfl, List.mem_singleton] at hj; rw [hj]; exact hts), wipe_wipe], ?_⟩
    obtain ⟨k1, k2, k3⟩ := keepO g2.x si fi hD
    have s2 : StR C w2 sti := sri.grow g2
    -- no name of the block alone holds the set
    have hbs : env2 = (wipe env (own.map (·.2))).set v0 (.val xs[i]) ∧ v0 < (wipe env (own.map (·.2))).length := by
      have eb' := eb
      unfold bind at eb'
      split at eb' <;> (try contradiction)
      rename_i hl
      split at eb' <;> (try contradiction)
      cases eb'
      exact ⟨rfl, hl⟩
    have hv0 : env2[v0]? = some (.val xs[i]) := by rw [hbs.1, List.getElem?_set_self hbs.2]
    have none2 : ∀ (j : Nat) (s : Sl), env2[j]? = some s → isOwn s = true → σ2[j]? ≠ some (some (.ref p)) := fun j s' e1 e2 => by
      by_cases q : v0 = j
      · subst q
        rw [hv0] at e1
        cases e1
        cases e2
      · rw [hbs.1, List.getElem?_set_ne q] at e1
        rw [o2.2 j (fun z => q (by rw [show tslots (T.name v0) = [v0] from rfl, List.mem_singleton] at z; exact z.symm))]
        exact EnvR.new (era.wipe _) hp j s' e1 e2
    unfold ev at e5
    obtain ⟨dy, st6, e6, e5⟩ := bind_ok e5
    have e6w : ev F .walk (.var v0) env2 sti = .ok dy st6 := by
      unfold ev at e6 ⊢
      rw [hv0] at e6 ⊢
      exact e6
    split at e5 <;> (try contradiction)
    rename_i ys ey
    obtain ⟨turn1, hturn1⟩ : ∃ turn : D → Store → R (Option D), turn = (fun x st => match bind t1 x (wipe env2 vs1) with
        | some env2 => (evs F .read [] env2 st).bind fun bs st => (match bs with
          | [] => (ev F .kept melt env2 st).bind fun d st => .ok (some d) st
          | [.bl true] => (ev F .kept melt env2 st).bind fun d st => .ok (some d) st
          | [.bl false] => .ok none st
          | _ => .bad)
        | none => .bad) := ⟨_, rfl⟩
    have e5 : lcGo turn1 ys [] st6 = .ok (.lst zs) st4 := by rw [hturn1]; exact e5
    intro sC HC CC clC fpC
    refine hi1 sC HC CC clC fpC w2 env2 σ2 sti dy st6 ys _ g2.x.ok erb s2 e6w ey fun K w3 x3 s3 hn3 it3 => ?_
    obtain ⟨l1, l2, l3⟩ := keepO x3 k1 k2 k3
    refine ⟨fun j k H => k = ys.length - j ∧ j ≤ ys.length ∧ ∃ acc1, Held1 C X p w1 w3 env2 σ2 (flatI acc ++ acc1.map intOf) turn1 (ys.drop j) acc1 (.lst zs) st4 H, ⟨ys.length, by simp, Nat.zero_le _, [], w3, st6, rfl, x2.trans x3, Later.refl x3.ok, erb.ext x3, l1, l2, by rw [List.map_nil, List.append_nil]; exact l3, s3, e5⟩, ?_⟩
    rintro j k H ⟨rfl, hjl, acc1, wj, stj, rfl, xj, yj, erj, sj, fj, hDj, srj, ej⟩
    obtain ⟨jt1, jt2⟩ := it3 wj yj
    by_cases hlt1 : j < ys.length
    case neg =>
      have hj2 : j = ys.length := by omega
      subst hj2
      rw [List.drop_of_length_le (Nat.le_refl _)] at ej
      unfold lcGo at ej
      cases ej
      refine .inl ⟨jt2, acc ++ [.lst zs], wj, st4, rfl, xj, sj, fj, ?_, srj, ei⟩
      rw [flatI_snoc]; exact hDj
    case pos =>
      have hgety : ys[j]? = some ys[j] := List.getElem?_eq_getElem hlt1
      obtain ⟨hgoy, hyy⟩ := jt1 j _ hgety
      rw [List.drop_eq_getElem_cons hlt1] at ej
      unfold lcGo at ej
      obtain ⟨o3, st7, et3, ej⟩ := bind_ok ej
      refine .inr ⟨hgoy, fun H' => ∃ acc1, Held1 C X p w1 w3 env2 σ2 (flatI acc ++ acc1.map intOf) turn1 (ys.drop (j + 1)) acc1 (.lst zs) st4 H', fun H' q => ⟨ys.length - (j + 1), by omega, rfl, hlt1, q⟩, fun y Hc hyl1 => ?_⟩
      obtain ⟨w4, g4, rfl, ry⟩ := hyy y Hc hyl1
      have erk := erj.ext g4.x
      rw [hturn1] at et3
      simp only at et3
      split at et3 <;> (try contradiction)
      rename_i env3 eb3
      have et3 : ((ev F .kept melt env3 stj).bind fun d st => R.ok (some d) st) = .ok o3 st7 := et3
      obtain ⟨de, st8, e8, et3⟩ := bind_ok et3
      cases et3
      obtain ⟨s9, hz9⟩ := lcGo_pre _ _ _ _ _ (show lcGo turn1 (ys.drop (j + 1)) (acc1 ++ [de]) st7 = .ok (.lst zs) st4 from ej)
      injection hz9 with hz9
      obtain ⟨c, rfl⟩ := ints_get hzs hz9
      have hacc1 : acc1.length + 1 ≤ zs.length := by rw [hz9]; simp
      intro sD HD CD clD fpD
      refine hg1 sD HD CD clD fpD w4 (wipe env2 vs1) (L2.wipe σ2 vs1) y ys[j] env3 _ g4.x.ok (erk.wipe _) ry eb3 fun σ3 erd o3 => ?_
      refine ⟨by rw [wipe_off o3 hts1, wipe_wipe], ?_⟩
      obtain ⟨m1, m2, m3⟩ := keepO g4.x sj fj hDj
      intro sE HE CE clE fpE
      refine he sE HE CE clE fpE w4 env3 σ3 stj (.int c) st7 _ g4.x.ok erd (srj.grow g4) e8 fun v w5 x5 s5 r5 => ?_
      obtain ⟨n1, n2, n3⟩ := keepO x5 m1 m2 m3
      have r5 : RV C w5 v (.int c) := r5
      have hv5 : v = .int c := by cases r5; rfl
      have hsl := sizeI_le (flatI acc ++ acc1.map intOf)
      rw [List.length_append, List.length_map] at hsl
      have eapp : flatI acc ++ (acc1 ++ [D.int c]).map intOf = flatI acc ++ acc1.map intOf ++ [c] := by rw [List.map_append, List.append_assoc]; rfl
      refine ⟨c, _, _, hv5, n3, by omega, acc1 ++ [.int c], ?_⟩
      rw [eapp, setN_add]
      exact ⟨w5.put p (SetN X p (flatI acc ++ acc1.map intOf ++ [c])), st7, rfl, Ext.put ((xj.trans g4.x).trans x5) n1 hp, ((yj.trans g4.x.later).trans x5.later).trans (Later.put x5.ok n1), (erk.ext x5).putN x5.ok n1 none2, n1, n2, upd_same, s5.put x5.ok n1 n2, ej⟩
end
end Mi

set_option Elab.async false
set_option linter.all false
set_option maxRecDepth 100000
set_option maxHeartbeats 1000000
/-! Mi9: statements. -/
namespace Mi
open PySem PySem.Spec PyProof.Rows L2
/-- a point in a def's body that was entered at the world w0 -/
structure Pt (C : Ct) (w0 w : Wd) (env : Env) (σ : Slots) (st : Store) : Prop where
  x : Ext w0 w
  er : EnvR C w env σ
  sr : StR C w st
  fr : ∀ (i : Nat) (s : Sl) (a : Addr), env[i]? = some s → isOwn s = true → σ[i]? = some (some (.ref a)) → w0.H a = none
section
variable {C : Ct} {F : Fns} {X : Cx} {md : Md} {a b c : Expr} {ma mb mc : E} {pos : Pos}
theorem Pt.ext {w0 w w' : Wd} {env : Env} {σ : Slots} {st st' : Store} (p : Pt C w0 w env σ st) (x : Ext w w') (s : StR C w' st') : Pt C w0 w' env σ st' := ⟨p.x.trans x, p.er.ext x, s, p.fr⟩
def tS (X : Cx) (s : Stmt) : TS := fun D σ H => ∀ pins sh, Inv X pins σ H sh → wpAny (model X.prog X.w) X.A (exec s X.env) (SP X pins D) X.xe sh
theorem ps_tS {s : Stmt} : PS X s (tS X s) := ⟨fun pins sh σ H D I h => h pins sh I⟩
theorem tS_of {s : Stmt} {t : TS} {D : Ends} {σ : Slots} {H : Hp} (h : PS X s t) (q : t D σ H) : tS X s D σ H := fun pins sh I => h.run pins sh σ H D I q
def tSs (X : Cx) (s : List Stmt) : TS := fun D σ H => ∀ pins sh, Inv X pins σ H sh → wpAny (model X.prog X.w) X.A (execs s X.env) (SP X pins D) X.xe sh
theorem pss_tSs {s : List Stmt} : PSs X s (tSs X s) := ⟨fun pins sh σ H D I h => h pins sh I⟩
theorem tSs_of {s : List Stmt} {t : TS} {D : Ends} {σ : Slots} {H : Hp} (h : PSs X s t) (q : t D σ H) : tSs X s D σ H := fun pins sh I => h.run pins sh σ H D I q
/-- what is wanted, by how the small language ends -/
def SEnds (C : Ct) (w0 wb : Wd) (D : Ends) (E : XK) : RS → Prop
  | .next env' st' => ∀ w' σ', Pt C w0 w' env' σ' st' → Later wb w' → D.nx σ' w'.H
  | .ret d st' => ∀ v w', Ext w0 w' → StR C w' st' → RV C w' v d → D.rt v w'.H
  | .err c st' => ∀ w', Ext w0 w' → StR C w' st' → E (.ref (C.xa c)) none w'.H
  | .bad => False
theorem SEnds.later {w0 wb wb' : Wd} {D : Ends} {E : XK} {r : RS} (h : SEnds C w0 wb D E r) (L : Later wb wb') : SEnds C w0 wb' D E r := by
  cases r with
  | next env st => exact fun w' σ' p l => h w' σ' p (L.trans l)
  | ret d st => exact h
  | err c st => exact h
  | bad => exact h
abbrev Tk (X : Cx) (E : XK) : Prop := Takes X (fun cls d _ H => E cls d H)
def SS (C : Ct) (F : Fns) (X : Cx) (s : Stmt) (m : S) : Prop := ∀ (w0 w : Wd) (env : Env) (σ : Slots) (st : Store) (D : Ends) (E : XK), Tk X E → Pt C w0 w env σ st → SEnds C w0 w D E (ex F m env st) → tS X s D σ w.H
def SL (C : Ct) (F : Fns) (X : Cx) (s : List Stmt) (m : List S) : Prop := ∀ (w0 w : Wd) (env : Env) (σ : Slots) (st : Store) (D : Ends) (E : XK), Tk X E → Pt C w0 w env σ st → SEnds C w0 w D E (exs F m env st) → tSs X s D σ w.H
theorem sl_nil : SL C F X [] [] := fun w0 w env σ st D E tk p h => tSs_of pss_nil (h w σ p (Later.refl p.x.ok))
theorem ss_bad {s : Stmt} : SS C F X s .bad := fun w0 w env σ st D E tk p h => by unfold ex at h; exact h.elim
theorem sl_bad {ss : List Stmt} {ms : List S} : SL C F X ss (.bad :: ms) := fun w0 w env σ st D E tk p h => by unfold exs ex at h; exact h.elim
theorem sl_cons {s : Stmt} {ss : List Stmt} {m : S} {ms : List S} (h1 : SS C F X s m) (h2 : SL C F X ss ms) : SL C F X (s :: ss) (m :: ms) := by
  intro w0 w env σ st D E tk p h
  refine tSs_of (pss_cons ps_tS pss_tSs) (h1 w0 w env σ st _ E tk p ?_)
  unfold exs at h
  cases e : ex F m env st with
  | next env' st' =>
    rw [e] at h
    intro w' σ' p' l
    exact h2 w0 w' env' σ' st' D E tk p' (SEnds.later h l)
  | ret d st' => rw [e] at h; exact h
  | err c st' => rw [e] at h; exact h
  | bad => rw [e] at h; exact h
/-! ### what one name held alone is from now on nobody's -/
theorem Wok.lok {w : Wd} (h : Wok w) {p : Addr} {o : HO} (hf : p ∉ w.φ) : Wok (w.add p o) := by
  refine ⟨fun a u e => ?_, h.nd, fun a ha => ?_, fun a ha => ?_⟩
  · by_cases z : a = p
    · subst z
      have e : upd w.S a o a = some u := e
      rw [upd_same] at e
      cases e
      exact upd_same
    · have e : upd w.S p o a = some u := e
      rw [upd_ne z] at e
      show upd w.H p o a = some u
      rw [upd_ne z]
      exact h.sub a u e
  · have : a ≠ p := fun z => hf (z ▸ ha)
    show upd w.S p o a = none
    rw [upd_ne this]; exact h.out a ha
  · have : a ≠ p := fun z => hf (z ▸ ha)
    show upd w.H p o a ≠ none
    rw [upd_ne this]; exact h.there a ha
theorem Later.lok {w : Wd} (h : Wok w) {p : Addr} {o : HO} (hf : p ∉ w.φ) (hs : w.S p = none) : Later w (w.add p o) := ⟨h.lok hf, fun a u e => by
  have : a ≠ p := fun z => by subst z; rw [e] at hs; cases hs
  show upd w.S p o a = some u
  rw [upd_ne this]; exact e, fun _ _ e => e⟩
theorem Ext.lok {w0 w : Wd} (x : Ext w0 w) {p : Addr} {o : HO} (hf : p ∉ w.φ) (hs : w.S p = none) (hn : w0.H p = none) : Ext w0 (w.add p o) := by
  refine ⟨x.ok.lok hf, fun a u e => ?_, fun a u e => ?_, fun a u e n => ?_, x.pre, x.new⟩
  · have e1 := x.sub a u e
    have : a ≠ p := fun z => by subst z; rw [e1] at hs; cases hs
    show upd w.S p o a = some u
    rw [upd_ne this]; exact e1
  · by_cases z : a = p
    · subst z; exact .inr hn
    · have e : upd w.S p o a = some u := e
      rw [upd_ne z] at e
      exact x.fresh a u e
  · have : a ≠ p := fun z => by subst z; rw [e] at hn; cases hn
    show upd w.H p o a = some u
    rw [upd_ne this]; exact x.frame a u e n
theorem Pt.given {w0 w w' : Wd} {env : Env} {σ : Slots} {st : Store} {i : Nat} {a : Addr} {d : D} (p : Pt C w0 w env σ st) (q : env[i]? = some (.own d)) (eo : σ[i]? = some (some (.ref a))) (xf : Ext w0 w') (L : Later w w') (hS : ∀ b, b ≠ a → w'.S b = w.S b) (hH : ∀ b, b ≠ a → w'.H b = w.H b) (hphi : w'.φ = w.φ) (sr : StR C w' st) (rv : RV C w' (.ref a) d) : Pt C w0 w' (env.set i (.val d)) σ st := by
  have others : ∀ (j : Nat) (s : Sl) (o : Option V), j ≠ i → env[j]? = some s → σ[j]? = some o → SlR C w' o s := fun j s o hj e1 e2 => by
    have q2 := p.er.at_ j s o e1 e2
    have own2 : ∀ d', (∃ b, o = some (.ref b) ∧ OwR C w b d') → isOwn s = true → ∃ b, o = some (.ref b) ∧ OwR C w' b d' := fun d' ⟨b, eb, rb⟩ hs => by
      have nb : b ≠ a := fun z => hj (p.er.one j i s (.own d) o e1 q hs rfl e2 (by rw [eb, z]; exact eo))
      refine ⟨b, eb, ?_, by rw [hphi]; exact rb.f, rb.h.mono L.sub L.phi (hH b nb)⟩
      rw [hS b nb]; exact rb.s
    cases s with
    | emp => trivial
    | val d' => obtain ⟨v, ev, rv⟩ := q2; exact ⟨v, ev, rv.later L⟩
    | own d' => exact own2 d' q2 rfl
    | lck d' => exact own2 d' q2 rfl
  have hi : i < env.length := (List.getElem?_eq_some_iff.mp q).1
  refine ⟨xf, ⟨by simp [p.er.len], fun j s o e1 e2 => ?_, fun j k s s' o e1 e2 h1 h2 e3 e4 => ?_⟩, sr, fun j s b e1 e2 e3 => ?_⟩
  · by_cases hj : i = j
    · subst hj
      rw [List.getElem?_set_self hi] at e1
      cases e1
      rw [eo] at e2; cases e2
      exact ⟨_, rfl, rv⟩
    · rw [List.getElem?_set_ne hj] at e1
      exact others j s o (Ne.symm hj) e1 e2
  · have nj : i ≠ j := fun z => by subst z; rw [List.getElem?_set_self hi] at e1; cases e1; cases h1
    have nk : i ≠ k := fun z => by subst z; rw [List.getElem?_set_self hi] at e2; cases e2; cases h2
    rw [List.getElem?_set_ne nj] at e1
    rw [List.getElem?_set_ne nk] at e2
    exact p.er.one j k s s' o e1 e2 h1 h2 e3 e4
  · have nj : i ≠ j := fun z => by subst z; rw [List.getElem?_set_self hi] at e1; cases e1; cases e2
    rw [List.getElem?_set_ne nj] at e1
    exact p.fr j s b e1 e2 e3
theorem sl_frz {ss : List Stmt} {ms : List S} {i : Nat} (h2 : SL C F X ss ms) : SL C F X ss (.frz i :: ms) := by
  intro w0 w env σ st D E tk p h
  unfold exs ex at h
  cases q : env[i]? with
  | none => rw [q] at h; exact h2 w0 w env σ st D E tk p h
  | some s =>
    rw [q] at h
    cases s with
    | emp => exact h2 w0 w env σ st D E tk p h
    | val d => exact h2 w0 w env σ st D E tk p h
    | lck d => exact h2 w0 w env σ st D E tk p h
    | own d =>
      obtain ⟨o, eo, r⟩ := p.er.get q
      obtain ⟨a, rfl, r⟩ := r
      have hn := p.fr i _ a q rfl eo
      cases hr : r.h with
      | lst g1 g2 =>
        have L : Later w (w.fix a _) := Later.fix p.x.ok g1 r.f r.s
        have xf := Ext.fix p.x g1 r.f r.s hn
        exact h2 w0 (w.fix a _) _ σ st D E tk (p.given q eo xf L (fun b nb => upd_ne nb) (fun _ _ => rfl) rfl (p.sr.fix p.x.ok g1 r.s r.f) (.lst upd_same (g2.later L))) (SEnds.later h L)
      | dct g1 g2 =>
        obtain ⟨kvs, e1, e2⟩ := g1
        have L : Later w (w.fix a _) := Later.fix p.x.ok e1 r.f r.s
        have xf := Ext.fix p.x e1 r.f r.s hn
        exact h2 w0 (w.fix a _) _ σ st D E tk (p.given q eo xf L (fun b nb => upd_ne nb) (fun _ _ => rfl) rfl (p.sr.fix p.x.ok e1 r.s r.f) (.dct ⟨kvs, upd_same, e2⟩ (g2.later L))) (SEnds.later h L)
      | dcn g1 g2 g3 g4 =>
        rename_i es ks ds
        intro pins sh I
        obtain ⟨od, I2⟩ := I.lock g1 True.intro
        have L : Later w (w.add a (.frz od (dN C.P C.W a es))) := Later.lok p.x.ok r.f r.s
        have xf := Ext.lok (o := .frz od (dN C.P C.W a es)) p.x r.f r.s hn
        have sr : StR C (w.add a (.frz od (dN C.P C.W a es))) st := p.sr.later L rfl fun b hb => upd_ne (fun z => r.f (z ▸ hb))
        exact h2 w0 (w.add a (.frz od (dN C.P C.W a es))) _ σ st D E tk (p.given q eo xf L (fun b nb => upd_ne nb) (fun b nb => upd_ne nb) rfl sr (.dcn upd_same (g2.later L) g3 (g4.later L))) (SEnds.later h L) pins sh I2

/-! ### small statements -/
theorem toS_cases {r : R D} {f : D → Store → RS} {w0 wb : Wd} {D' : Ends} {E' : XK} (h : SEnds C w0 wb D' E' (r.toS f)) : ∃ d st, r = .ok d st ∧ SEnds C w0 wb D' E' (f d st) := by
  cases r with
  | ok d st => exact ⟨d, st, rfl, h⟩
  | err _ _ => exact h.elim
  | bad => exact h.elim
theorem toSs_cases {r : R (List D)} {f : List D → Store → RS} {w0 wb : Wd} {D' : Ends} {E' : XK} (h : SEnds C w0 wb D' E' (r.toSs f)) : ∃ d st, r = .ok d st ∧ SEnds C w0 wb D' E' (f d st) := by
  cases r with
  | ok d st => exact ⟨d, st, rfl, h⟩
  | err _ _ => exact h.elim
  | bad => exact h.elim
/-- behind an expression that an error may leave -/
theorem toX_ends {r : R D} {f : D → Store → RS} {w0 w : Wd} {D' : Ends} {E' : XK} {Q : VK} (x0 : Ext w0 w) (h : SEnds C w0 w D' E' (r.toX f)) (hq : ∀ d st', r = .ok d st' → SEnds C w0 w D' E' (f d st') → ∀ v w', Ext w w' → StR C w' st' → RV C w' v d → Q v w'.H) : FEnds C w Q E' r := by
  cases r with
  | ok d st => exact hq d st rfl h
  | err c st => exact fun w' x s => h w' (x0.trans x) s
  | bad => exact h
theorem ss_raise {x m : Str} {k j : Nat} {p p2 pos pos' : Pos} (hc : X.calm = true) (q : PySem.W.excIn X.K (C.xa k) [.type "ValueError", .type "Exception", .type "BaseException", .type "object"] "ValueError.__new__" = true) (gC : X.mg x = some (.ref (C.xa k))) (kC : PySem.W.keepIn X.K (.ref (C.xa k)) = true) (r : Raises X (.ref (C.xa k))) (hg : Gl X x) (hdb : (x == ("__debug__" : Str)) = false) :
    SS C F X (.Raise (some (.Call (.Name x p) [.Constant (.str m) j p2] [] pos)) none pos') (.raise_ k) := by
  intro w0 w env σ st D E tk p h
  unfold ex at h
  exact tS_of (ps_raise hc tk (pmk_own PySem.F.excBase_ValueError q gC kC r hg hdb)) (h w p.x p.sr)
theorem ss_pass : SS C F X (.Pass pos) .pass := fun w0 w env σ st D E tk p h => tS_of ps_pass (h w σ p (Later.refl p.x.ok))
theorem ss_ret {e : Expr} {m : E} (h1 : SX C F X e m) : SS C F X (.Return (some e) pos) (.ret m) := by
  intro w0 w env σ st D E tk p h
  unfold ex at h
  exact tS_of (ps_ret pe_tE) (h1 w env σ st _ E p.x.ok p.er p.sr tk (toX_ends p.x h fun d st' _ h v w' x s r => h v w' (p.x.trans x) s r))
theorem noLc {e : Expr} {t : Option Expr} {l : Nat} {env : PySem.Env} (h : (match e with | .ListComp .. => false | .SetComp .. => false | .DictComp .. => false | _ => true) = true) : swapsWith e t l env = pure false := by
  cases e <;> first | rfl | cases h
def noComp : Expr → Bool
  | .ListComp .. => false
  | .SetComp .. => false
  | .DictComp .. => false
  | _ => true
theorem noComp_sw {e : Expr} (h : noComp e = true) (t : Option Expr) (l : Nat) (env : PySem.Env) : swapsWith e t l env = pure false := by
  cases e <;> first | rfl | cases h
theorem ss_expr {e : Expr} {m : E} (h1 : SX C F X e m) (hs : noComp e = true) : SS C F X (.Expr e pos) (.expr m) := by
  intro w0 w env σ st D E tk p h
  unfold ex at h
  exact tS_of (ps_expr pe_tE (noComp_sw hs _ _ _)) (h1 w env σ st _ E p.x.ok p.er p.sr tk (toX_ends p.x h fun d st' _ h v w' x s r => h w' σ (p.ext x s) x.later))
theorem ss_if {t : Expr} {mt : E} {sa sb : List Stmt} {msa msb : List S} (ht : ST C F X t mt) (h1 : SL C F X sa msa) (h2 : SL C F X sb msb) : SS C F X (.If t sa sb pos) (.ite mt msa msb) := by
  intro w0 w env σ st D E tk p h
  unfold ex at h
  obtain ⟨d, st1, e1, h⟩ := toS_cases h
  have hd : ∃ k, d = .bl k := by cases d <;> first | exact ⟨_, rfl⟩ | exact h.elim
  obtain ⟨k, rfl⟩ := hd
  refine tS_of (ps_if pt_tT pss_tSs pss_tSs) (ht w env σ st _ st1 _ p.x.ok p.er p.sr e1 (fun b w1 x1 s1 eb => ?_) ⟨k, rfl⟩)
  cases eb
  cases k with
  | true => rw [if_pos rfl]; exact h1 w0 w1 env σ st1 D E tk (p.ext x1 s1) (SEnds.later h x1.later)
  | false => rw [if_neg (by decide)]; exact h2 w0 w1 env σ st1 D E tk (p.ext x1 s1) (SEnds.later h x1.later)

/-! ### stores -/
mutual
theorem bind_own : ∀ {t : T} {d : D} {env env' : Env}, bind t d env = some env' → ∀ (j : Nat) (s : Sl), env'[j]? = some s → isOwn s = true → j ∉ tslots t ∧ env[j]? = some s
  | .name i, d, env, env', e, j, s, e1, e2 => by
    unfold bind at e
    split at e <;> (try contradiction)
    split at e <;> (try contradiction)
    cases e
    have hj : i ≠ j := fun z => by
      subst z
      rw [List.getElem?_set_self (by assumption)] at e1
      cases e1; cases e2
    rw [List.getElem?_set_ne hj] at e1
    exact ⟨by simp [tslots]; exact Ne.symm hj, e1⟩
  | .tup ts, d, env, env', e, j, s, e1, e2 => by
    cases d <;> (try (unfold bind at e; contradiction))
    unfold bind at e
    rw [tslots]
    exact binds_own e j s e1 e2
theorem binds_own : ∀ {ts : List T} {ds : List D} {env env' : Env}, binds ts ds env = some env' → ∀ (j : Nat) (s : Sl), env'[j]? = some s → isOwn s = true → j ∉ tslotss ts ∧ env[j]? = some s
  | [], [], env, env', e, j, s, e1, e2 => by cases e; exact ⟨by simp [tslotss], e1⟩
  | [], _ :: _, _, _, e, _, _, _, _ => by simp [binds] at e
  | _ :: _, [], _, _, e, _, _, _, _ => by simp [binds] at e
  | t :: ts, d :: ds, env, env', e, j, s, e1, e2 => by
    unfold binds at e
    split at e <;> (try contradiction)
    rename_i env1 eb
    obtain ⟨a1, a2⟩ := binds_own e j s e1 e2
    obtain ⟨b1, b2⟩ := bind_own eb j s a2 e2
    exact ⟨by rw [tslotss]; simp [a1, b1], b2⟩
end
theorem Pt.bind {w0 w : Wd} {env env' : Env} {σ σ' : Slots} {st : Store} {t : T} {d : D} (p : Pt C w0 w env σ st) (e : Mi.bind t d env = some env') (er : EnvR C w env' σ') (o : OffBy (tslots t) σ σ') : Pt C w0 w env' σ' st :=
  ⟨p.x, er, p.sr, fun j s b e1 e2 e3 => by
    obtain ⟨a1, a2⟩ := bind_own e j s e1 e2
    rw [o.2 j a1] at e3
    exact p.fr j s b a2 e2 e3⟩
/-- name = value -/
theorem ss_set {i : Nat} {x : Str} {e : Expr} {m : E} {pos' : Pos} (hN : X.N.Nodup) (hi : X.N[i]? = some x) (hx : Loc X.env.scope x) (hf : X.fn x = true ∨ X.env.scope.names.lookup x = some .local) (h1 : SX C F X e m) (hs : swapsWith e (some (.Name x pos')) pos.line X.env = pure false) : SS C F X (.Assign [.Name x pos'] e pos) (.asg (.name i) m) := by
  intro w0 w env σ st D E tk p h
  unfold ex at h
  refine tS_of (ps_set hN hi hx pe_tE hs hf) (h1 w env σ st _ E p.x.ok p.er p.sr tk (toX_ends p.x h fun d st' _ h v w' x s r => ?_))
  split at h <;> (try exact h.elim)
  rename_i env1 eb
  have p' := p.ext x s
  have eb' := eb
  unfold Mi.bind at eb
  split at eb <;> (try contradiction)
  split at eb <;> (try contradiction)
  cases eb
  refine h w' _ (p'.bind eb' (p'.er.setVal r i) ⟨by simp, fun j hj => ?_⟩) x.later
  rw [List.getElem?_set_ne]
  intro z
  subst z
  exact hj (by simp [tslots])
theorem noTup_sw {ts : List Expr} {k : Nat} {pt : Pos} {e : Expr} (h : (match e with | .Tuple .. => false | _ => true) = true) (env : PySem.Env) : swappedStores [.Tuple ts k pt] e env = pure none := by
  cases e <;> first | rfl | cases h
def noTup : Expr → Bool
  | .Tuple .. => false
  | _ => true
/-- (a, b, ..) = value -/
theorem toX_cases {r : R D} {f : D → Store → RS} {w0 wb : Wd} {D' : Ends} {E' : XK} (hn : ∀ c st, r ≠ .err c st) (h : SEnds C w0 wb D' E' (r.toX f)) : ∃ d st, r = .ok d st ∧ SEnds C w0 wb D' E' (f d st) := by
  cases r with
  | ok d st => exact ⟨d, st, rfl, h⟩
  | err c st => exact absurd rfl (hn c st)
  | bad => exact h.elim
theorem ss_tupset {ts : List Expr} {k : Nat} {pt : Pos} {e : Expr} {m : E} {t : T} (hg : SG C X (.Tuple ts k pt) t) (h1 : SX C F X e m) (hs : noTup e = true) (hs2 : noComp e = true) : SS C F X (.Assign [.Tuple ts k pt] e pos) (.asg t m) := by
  intro w0 w env σ st D E tk p h
  unfold ex at h
  refine tS_of (ps_asg pe_tE pg_tG (by unfold swapsWithSole; exact noComp_sw hs2 _ _ _) (noTup_sw (by cases e <;> first | rfl | cases hs) _) rfl) (h1 w env σ st _ E p.x.ok p.er p.sr tk (toX_ends p.x h fun d st' _ h v w' x s r => ?_))
  split at h <;> (try exact h.elim)
  rename_i env1 eb
  have p' := p.ext x s
  exact hg w' env σ v d env1 _ x.ok p'.er r eb fun σ' er' o => h w' σ' (p'.bind eb er' o) x.later
/-- name = [.. for ..] on one line -/
theorem ss_setLc {i : Nat} {y : Str} {py : Pos} {elt tg iter : Expr} {ifs : List Expr} {scope : Scope} {own : List (Str × Nat)} {spos : Pos} {melt mit : E} {mifs : List E} {t : T} (hc : X.calm = true) (hN : X.N.Nodup) (hy : X.N[i]? = some y) (hyl : X.env.scope.names.lookup y = some .local)
    (hsw : swapsWith (.ListComp elt [⟨tg, iter, ifs, 0⟩] scope pos) (some (.Name y py)) spos.line X.env = pure true) (ok : BlkOk X.N X.env.scope scope own)
    (hi : SI C F X .iter tg iter mit) (hg : Blks X scope fun Y => SG C Y tg t) (ht : Blks X scope fun Y => STs C F Y ifs mifs) (he : Blks X scope fun Y => SE C F Y .kept elt melt) (hts : ∀ j ∈ tslots t, j ∈ own.map (·.2))
    (hs : ∀ x, foldedSetIterable iter X.env x = pure x) : SS C F X (.Assign [.Name y py] (.ListComp elt [⟨tg, iter, ifs, 0⟩] scope pos) spos) (.asg (.name i) (.lc melt (own.map (·.2)) t mit mifs)) := by
  intro w0 w env σ st D E tk p h
  unfold ex at h
  obtain ⟨d, st1, e1, h⟩ := toX_cases (calm_noerr rfl _ _) h
  split at h <;> (try exact h.elim)
  rename_i env1 eb
  refine tS_of (ps_setLc hc hN hy hyl hsw pi_tI ok lcg_ok lct_ok lce_ok hs) (lc_read (md := .kept) hi hg ht he hts p.x.ok p.er p.sr e1 fun v w' x s r => ?_)
  have p' := p.ext x s
  have eb' := eb
  unfold Mi.bind at eb
  split at eb <;> (try contradiction)
  split at eb <;> (try contradiction)
  cases eb
  refine h w' _ (p'.bind eb' (p'.er.setVal r i) ⟨by simp, fun j hj => ?_⟩) x.later
  rw [List.getElem?_set_ne]
  intro z
  subst z
  exact hj (by simp [tslots])
end
end Mi

set_option Elab.async false
set_option linter.all false
set_option maxRecDepth 100000
set_option maxHeartbeats 1000000
/-! Mi9b: what one name alone holds: made, grown, changed by place; loops. -/
namespace Mi
open PySem PySem.Spec PyProof.Rows L2
section
variable {C : Ct} {F : Fns} {X : Cx} {md : Md} {a b c : Expr} {ma mb mc : E} {pos : Pos}
theorem Ext.none {w w' : Wd} (x : Ext w w') {p : Addr} (h : w'.H p = none) : w.H p = none := by
  cases q : w.H p with
  | none => rfl
  | some o =>
    by_cases hp : p ∈ w.φ
    · exact absurd h (x.ok.there p (x.pre.subset hp))
    · rw [x.frame p o q hp] at h; cases h
theorem Wok.noneS {w : Wd} (h : Wok w) {p : Addr} (hn : w.H p = none) : w.S p = none ∧ p ∉ w.φ := by
  refine ⟨?_, fun z => h.there p z hn⟩
  cases q : w.S p with
  | none => rfl
  | some u => rw [h.sub p u q] at hn; cases hn
/-- the expression makes a new list or dict that nobody else holds -/
def SF (C : Ct) (F : Fns) (X : Cx) (e : Expr) (m : E) : Prop := ∀ (w : Wd) (env : Env) (σ : Slots) (st : Store) (d : D) (st' : Store) (Q : VK), Wok w → EnvR C w env σ → StR C w st → ev F .kept m env st = .ok d st' → mutD d = true →
  (∀ p w', Ext w w' → StR C w' st' → OwR C w' p d → w.H p = none → Q (.ref p) w'.H) → tE X e σ w.H Q
theorem own_new {w0 w : Wd} {st : Store} {vs : List V} {ds : List D} {Q : VK} (x : Ext w0 w) (sr : StR C w st) (r : RVs C w vs ds) (h : ∀ p w', Ext w0 w' → StR C w' st → OwR C w' p (.lst ds) → w0.H p = none → Q (.ref p) w'.H) : ∀ p, w.H p = none → Q (.ref p) (upd w.H p (.lst vs)) := fun p hp => by
  obtain ⟨h1, h2⟩ := x.ok.noneS hp
  exact h p (w.put p (.lst vs)) (Ext.put x h1 (x.none hp)) (sr.put x.ok h1 h2) ⟨h1, h2, .lst upd_same (r.later (Later.put x.ok h1))⟩ (x.none hp)
theorem sf_list {es : List Expr} {ms : List E} (h1 : SA C F X .kept es ms) : SF C F X (.List es pos) (.list ms) := by
  intro w env σ st d st' Q ok er sr e _ h
  unfold ev at e
  obtain ⟨ds, st1, e1, e⟩ := bind_ok e
  split at e <;> (try contradiction)
  rename_i hf
  cases e
  exact tE_of (pe_lst pa_tA) (h1 w env σ st ds st' _ ok er sr e1 fun vs w1 x1 s1 l1 r1 => ⟨by rw [l1]; exact fit_le hf, own_new x1 s1 (rvs_kept l1 r1) h⟩)
theorem sf_mul (ha : SE C F X .read a ma) (hb : SE C F X .read b mb) : SF C F X (.BinOp a .Mult b pos) (.bin .mul ma mb) := by
  intro w env σ st d st' Q ok er sr e hd h
  unfold ev at e
  refine tE_of (pe_op op_rep pe_tE pe_tE) (two ha hb ok er sr e fun x y dx dy w2 st2 x2 s2 r1 r2 e => ?_)
  obtain ⟨eb, rfl⟩ := of_ok e
  unfold bin at eb
  split at eb
  all_goals (try cases ‹Op.mul = _›)
  · split at eb <;> (try contradiction)
    cases eb
    cases hd
  · split at eb <;> (try contradiction)
    cases eb
    cases hd
  · rename_i xs j e1 e2
    split at eb <;> (try contradiction)
    rename_i hf
    cases eb
    obtain ⟨hb1, hb2⟩ := Bool.and_eq_true_iff.mp hf
    obtain ⟨p, vs, rfl, h1, q1⟩ := res_lst x2.ok s2 r1 e1
    obtain ⟨b1, b2⟩ := inI_bounds hb1
    exact ⟨p, j, vs, rfl, res_int r2 e2, h1, by omega, by omega, by rw [q1.length]; exact fit_le hb2, own_new x2 s2 (q1.rep _) h⟩
  · cases eb
theorem sf_dict0 {pos : Pos} : SF C F X (.Dict [] [] pos) .dict0 := by
  intro w env σ st d st' Q ok er sr e hd h
  cases e
  refine tE_of pe_dnewK (fun p hp => ?_)
  obtain ⟨h1, h2⟩ := ok.noneS hp
  exact h p (w.put p (.dK [])) (Ext.put (Ext.refl ok) h1 hp) (sr.put ok h1 h2) ⟨h1, h2, .dct ⟨[], upd_same, rfl, rfl, by simp⟩ .nil⟩ hp

theorem sf_dictD {p : Pos} (hg : Gl X "dict") (hm : X.mg "dict" = none) (ha : SE C F X .read a ma) (hp : plainE a = true) : SF C F X (.Call (.Name "dict" p) [a] [] pos) (.bi .dict [ma]) := by
  intro w env σ st d st' Q ok er sr e hd h
  unfold ev at e
  obtain ⟨ds, st1, e1, e⟩ := bind_ok e
  obtain ⟨eo, rfl⟩ := of_ok e
  unfold evs at e1
  obtain ⟨dx, st2, e1, e2⟩ := bind_ok e1
  unfold evs at e2
  cases e2
  have eo : biF .dict [res st1 dx] = some d := eo
  unfold biF at eo
  split at eo <;> (try contradiction)
  rename_i ks vs _ ex
  cases eo
  have ex : res st1 dx = .dct ks vs := by simpa using ex
  refine tE_of (pe_callTy call_dictD hg hm (by decide +kernel) (pa_cons pe_tE pa_nil (star_ok hp _ _)) (by decide) (by decide) (star_ok hp _ _) (by rw [backTo_any]; rfl)) (ha w env σ st _ st1 _ ok er sr e1 fun v w1 x1 s1 r1 => ?_)
  obtain ⟨q, us, rfl, ⟨kvs, hdk, rfl, rfl, nd⟩, q1⟩ := res_dct x1.ok s1 r1 ex
  refine ⟨q, kvs, rfl, .inl hdk, fun p hp => ?_⟩
  obtain ⟨h1, h2⟩ := x1.ok.noneS hp
  exact h p (w1.put p (.dK kvs)) (Ext.put x1 h1 (x1.none hp)) (s1.put x1.ok h1 h2) ⟨h1, h2, .dct ⟨kvs, upd_same, rfl, rfl, nd⟩ (q1.later (Later.put x1.ok h1))⟩ (x1.none hp)
theorem Pt.setOwn {w0 w : Wd} {env : Env} {σ : Slots} {st : Store} (p : Pt C w0 w env σ st) {i : Nat} {q : Addr} {d : D} (r : OwR C w q d) (hn : w0.H q = none) (hne : ∀ (j : Nat) (s : Sl), j ≠ i → env[j]? = some s → isOwn s = true → σ[j]? ≠ some (some (.ref q))) : Pt C w0 w (env.set i (.own d)) (σ.set i (some (.ref q))) st := by
  refine ⟨p.x, p.er.setOwn r hne, p.sr, fun j s b e1 e2 e3 => ?_⟩
  by_cases hj : i = j
  · subst hj
    rw [List.getElem?_set] at e3
    simp only [if_true] at e3
    split at e3
    · cases e3; exact hn
    · cases e3
  · rw [List.getElem?_set_ne hj] at e1 e3
    exact p.fr j s b e1 e2 e3
/-- name = a new list or dict -/
theorem ss_new {i : Nat} {x : Str} {e : Expr} {m : E} {pos' : Pos} (hN : X.N.Nodup) (hi : X.N[i]? = some x) (hx : Loc X.env.scope x) (hf : X.fn x = true ∨ X.env.scope.names.lookup x = some .local) (h1 : SF C F X e m) (hs : noComp e = true) : SS C F X (.Assign [.Name x pos'] e pos) (.new i m) := by
  intro w0 w env σ st D E tk p h
  unfold ex at h
  obtain ⟨d, st1, e1, h⟩ := toS_cases h
  split at h <;> (try exact h.elim)
  have hd : mutD d = true ∧ SEnds C w0 w D E (.next (env.set i (.own d)) st1) := by
    cases d <;> (try exact h.elim)
    · exact ⟨rfl, h⟩
    · exact ⟨rfl, h⟩
    · exact ⟨rfl, h⟩
  obtain ⟨hd, h⟩ := hd
  refine tS_of (ps_set hN hi hx pe_tE (noComp_sw hs _ _ _) hf) (h1 w env σ st d st1 _ p.x.ok p.er p.sr e1 hd fun q w' x s r hn => ?_)
  have p' := p.ext x s
  exact h w' _ (p'.setOwn r (p.x.none hn) fun j s' _ ej ei => p.er.new hn j s' ej ei) x.later
/-- a new thing becomes one of the store -/
theorem newloc {w w' : Wd} {st1 : Store} {q : Addr} {d : D} {cl : Cell} (x : Ext w w') (s : StR C w' st1) (r : OwR C w' q d) (hn : w.H q = none) (hcl : ∀ w' q, HR C w' q d → CR C w' q cl) :
    Ext w ⟨w'.S, w'.H, w'.φ ++ [q]⟩ ∧ StR C ⟨w'.S, w'.H, w'.φ ++ [q]⟩ (st1 ++ [cl]) ∧ RV C ⟨w'.S, w'.H, w'.φ ++ [q]⟩ (.ref q) (.loc st1.length) := by
  obtain ⟨o, ho⟩ := r.h.thr
  have hl : st1.length = w'.φ.length := s.len
  have ok2 : Wok ⟨w'.S, w'.H, w'.φ ++ [q]⟩ := ⟨x.ok.sub, List.nodup_append.mpr ⟨x.ok.nd, by simp, fun b hb d' hd' z => by simp at hd'; subst hd'; subst z; exact r.f hb⟩, fun b hb => by
    rcases List.mem_append.mp hb with hb | hb
    · exact x.ok.out b hb
    · simp at hb; subst hb; exact r.s, fun b hb => by
    rcases List.mem_append.mp hb with hb | hb
    · exact x.ok.there b hb
    · simp at hb; subst hb; rw [show (w'.H b) = _ from ho]; simp⟩
  have x2 : Ext w ⟨w'.S, w'.H, w'.φ ++ [q]⟩ := ⟨ok2, x.sub, x.fresh, x.frame, x.pre.trans (List.prefix_append _ _), fun b hb => by
    rcases List.mem_append.mp hb with hb | hb
    · exact x.new b hb
    · simp at hb; subst hb; exact .inr hn⟩
  have phi : ∀ (n : Nat) (b : Addr), w'.φ[n]? = some b → (w'.φ ++ [q])[n]? = some b := fun n b e => by rw [List.getElem?_append_left (List.getElem?_eq_some_iff.mp e).1]; exact e
  refine ⟨x2, ⟨by simp [hl], fun n c b e1 e2 => ?_⟩, .loc (by
    show (w'.φ ++ [q])[st1.length]? = some q
    rw [hl, List.getElem?_append_right (Nat.le_refl _)]
    simp)⟩
  by_cases hn' : n < st1.length
  · rw [List.getElem?_append_left hn'] at e1
    have e2 : (w'.φ ++ [q])[n]? = some b := e2
    rw [List.getElem?_append_left (by omega)] at e2
    exact (s.at_ n c b e1 e2).mono (fun _ _ z => z) phi rfl
  · have hlt : n < (st1 ++ [cl]).length := (List.getElem?_eq_some_iff.mp e1).1
    have hn2 : n = st1.length := by simp at hlt; omega
    subst hn2
    have e2 : (w'.φ ++ [q])[st1.length]? = some b := e2
    rw [List.getElem?_append_right (Nat.le_refl _)] at e1
    rw [hl, List.getElem?_append_right (Nat.le_refl _)] at e2
    simp at e1 e2
    subst e1
    subst e2
    exact hcl _ _ (r.h.mono (fun _ _ z => z) phi rfl)
theorem sf_dictN (hP : X.prog = C.P) (hW : X.w = C.W) : SF C F X (.Dict [] [] pos) .dictN := by
  intro w env σ st d st' Q ok er sr e hd h
  cases e
  refine tE_of pe_dnewN (fun p hp => ?_)
  rw [hP, hW]
  obtain ⟨h1, h2⟩ := ok.noneS hp
  exact h p (w.put p (dN C.P C.W p [])) (Ext.put (Ext.refl ok) h1 hp) (sr.put ok h1 h2) ⟨h1, h2, .dcn upd_same .nil NQ.nil .nil⟩ hp
/-- {}, handed on to be changed by whom it is given -/
theorem se_newN (hP : X.prog = C.P) (hW : X.w = C.W) : SE C F X md (.Dict [] [] pos) .newN := by
  intro w env σ st d st' Q ok er sr e h
  unfold ev at e
  cases e
  refine sf_dictN (F := F) hP hW w env σ st (.dcn [] []) st Q ok er sr rfl rfl fun q w' x s r hn => ?_
  obtain ⟨x2, s2, rl⟩ := newloc (cl := .dcn [] []) x s r hn fun w' q z => by cases z with | dcn h1 h2 h3 h4 => exact .dcn h1 h2 h3 h4
  exact h (.ref q) ⟨w'.S, w'.H, w'.φ ++ [q]⟩ x2 s2 (rl.rm md)
/-- {}, never changed -/
theorem se_dict0 : SE C F X md (.Dict [] [] pos) .dict0 := by
  intro w env σ st d st' Q ok er sr e h
  cases e
  refine tE_of pe_dnewK (fun p hp => ?_)
  exact h (.ref p) (w.add p (.dK [])) (Ext.add ok hp) (sr.add ok hp) (RV.rm md (.dct ⟨[], upd_same, rfl, rfl, by simp⟩ .nil))
/-- name = a new list or dict of the store -/
theorem ss_loc {i : Nat} {x : Str} {e : Expr} {m : E} {pos' : Pos} (hN : X.N.Nodup) (hi : X.N[i]? = some x) (hx : Loc X.env.scope x) (hf : X.fn x = true ∨ X.env.scope.names.lookup x = some .local) (h1 : SF C F X e m) (hs : noComp e = true) : SS C F X (.Assign [.Name x pos'] e pos) (.loc i m) := by
  intro w0 w env σ st D E tk p h
  unfold ex at h
  obtain ⟨d, st1, e1, h⟩ := toS_cases h
  split at h <;> (try exact h.elim)
  rename_i hfr
  have hd : ∃ cl, mutD d = true ∧ (∀ w' q, HR C w' q d → CR C w' q cl) ∧ SEnds C w0 w D E (.next (env.set i (.val (.loc st1.length))) (st1 ++ [cl])) := by
    cases d <;> (try exact h.elim)
    · exact ⟨_, rfl, fun w' q z => by cases z with | lst h1 h2 => exact .lst h1 h2, h⟩
    · exact ⟨_, rfl, fun w' q z => by cases z with | dct h1 h2 => exact .dct h1 h2, h⟩
    · exact ⟨_, rfl, fun w' q z => by cases z with | dcn h1 h2 h3 h4 => exact .dcn h1 h2 h3 h4, h⟩
  obtain ⟨cl, hd, hcl, h⟩ := hd
  refine tS_of (ps_set hN hi hx pe_tE (noComp_sw hs _ _ _) hf) (h1 w env σ st d st1 _ p.x.ok p.er p.sr e1 hd fun q w' x s r hn => ?_)
  obtain ⟨x2, s2, rl⟩ := newloc x s r hn hcl
  have p2 : Pt C w0 ⟨w'.S, w'.H, w'.φ ++ [q]⟩ env σ (st1 ++ [cl]) := p.ext x2 s2
  have hb : Mi.bind (.name i) (.loc st1.length) env = some (env.set i (.val (.loc st1.length))) := by
    unfold Mi.bind
    unfold freeAt at hfr
    cases q : env[i]? with
    | none => rw [q] at hfr; cases hfr
    | some s0 =>
      have hlt := (List.getElem?_eq_some_iff.mp q).1
      rw [if_pos hlt]
      rw [q] at hfr
      cases s0 <;> first | rfl | cases hfr
  refine h ⟨w'.S, w'.H, w'.φ ++ [q]⟩ _ (p2.bind hb (p2.er.setVal rl i) ⟨by simp, fun j hj => ?_⟩) x2.later
  rw [List.getElem?_set_ne]
  intro z
  subst z
  exact hj (by simp [tslots])

/-! ### changing -/
/-- what name i alone holds is changed -/
theorem Pt.change {w0 w : Wd} {env : Env} {σ : Slots} {st : Store} (p : Pt C w0 w env σ st) {i : Nat} {q : Addr} {d0 d : D} {o : HO} (e : env[i]? = some (.own d0)) (eσ : σ[i]? = some (some (.ref q))) (hd : HR C (w.put q o) q d) : Pt C w0 (w.put q o) (env.set i (.own d)) σ st ∧ Later w (w.put q o) := by
  obtain ⟨o', eo', r⟩ := p.er.get e
  rw [eσ] at eo'
  cases eo'
  obtain ⟨b, eb, r⟩ := r
  cases eb
  have hi : i < env.length := (List.getElem?_eq_some_iff.mp e).1
  have L : Later w (w.put q o) := Later.put p.x.ok r.s
  have r' : OwR C (w.put q o) q d := ⟨r.s, r.f, hd⟩
  refine ⟨⟨Ext.put p.x r.s (p.fr i _ q e rfl eσ), ⟨by simp [p.er.len], fun j s o' e1 e2 => ?_, fun j k s s' o' e1 e2 h1 h2 e3 e4 => ?_⟩, p.sr.put p.x.ok r.s r.f, fun j s b e1 e2 e3 => ?_⟩, L⟩
  · by_cases hj : i = j
    · subst hj
      rw [List.getElem?_set_self hi] at e1
      cases e1
      rw [eσ] at e2; cases e2
      exact ⟨q, rfl, r'⟩
    · rw [List.getElem?_set_ne hj] at e1
      have q2 := p.er.at_ j s o' e1 e2
      have own2 : ∀ d', (∃ b, o' = some (.ref b) ∧ OwR C w b d') → isOwn s = true → ∃ b, o' = some (.ref b) ∧ OwR C (w.put q o) b d' := fun d' ⟨b, eb, rb⟩ hs => by
        have nb : b ≠ q := fun z => hj (p.er.one i j (.own d0) s o' e e1 rfl hs (by rw [eb, z]; exact eσ) e2)
        exact ⟨b, eb, rb.s, rb.f, rb.h.mono L.sub L.phi (upd_ne nb)⟩
      cases s with
      | emp => trivial
      | val d' => obtain ⟨v, ev, rv⟩ := q2; exact ⟨v, ev, rv.later L⟩
      | own d' => exact own2 d' q2 rfl
      | lck d' => exact own2 d' q2 rfl
  · have key : ∀ (j : Nat) (s : Sl), (env.set i (.own d))[j]? = some s → isOwn s = true → ∃ s1, env[j]? = some s1 ∧ isOwn s1 = true := fun j s e1 h1 => by
      by_cases hj : i = j
      · subst hj; exact ⟨_, e, rfl⟩
      · rw [List.getElem?_set_ne hj] at e1; exact ⟨s, e1, h1⟩
    obtain ⟨s1, a1, a2⟩ := key j s e1 h1
    obtain ⟨s2, b1, b2⟩ := key k s' e2 h2
    exact p.er.one j k s1 s2 o' a1 b1 a2 b2 e3 e4
  · by_cases hj : i = j
    · subst hj; exact p.fr i _ b e rfl e3
    · rw [List.getElem?_set_ne hj] at e1; exact p.fr j s b e1 e2 e3
/-- an object of the store is changed -/
theorem Pt.storeSet {w0 w : Wd} {env : Env} {σ : Slots} {st : Store} (p : Pt C w0 w env σ st) {n : Nat} {q : Addr} {o : HO} {cl : Cell} (hq : w.φ[n]? = some q) (hd : CR C (w.put q o) q cl) : Pt C w0 (w.put q o) env σ (st.set n cl) ∧ Later w (w.put q o) ∧ Ext w (w.put q o) := by
  have hm : q ∈ w.φ := List.mem_of_getElem? hq
  have hs : w.S q = none := p.x.ok.out q hm
  have L : Later w (w.put q o) := Later.put p.x.ok hs
  have x : Ext w (w.put q o) := ⟨p.x.ok.put hs, fun _ _ e => e, fun _ _ e => .inl e, fun b u e nb => by
    have : b ≠ q := fun z => nb (z ▸ hm)
    show upd w.H q o b = some u
    rw [upd_ne this]; exact e, List.prefix_refl _, fun b hb => .inl hb⟩
  have s2 : StR C (w.put q o) (st.set n cl) := by
    refine ⟨by simp [p.sr.len]; rfl, fun m c b e1 e2 => ?_⟩
    have e2 : w.φ[m]? = some b := e2
    by_cases hn : n = m
    · subst hn
      rw [hq] at e2; cases e2
      rw [List.getElem?_set] at e1
      simp only [if_true] at e1
      split at e1
      · cases e1; exact hd
      · cases e1
    · rw [List.getElem?_set_ne hn] at e1
      have nb : b ≠ q := fun z => by
        subst z
        obtain ⟨i1, j1⟩ := List.getElem?_eq_some_iff.mp hq
        obtain ⟨i2, j2⟩ := List.getElem?_eq_some_iff.mp e2
        exact hn ((List.getElem_inj p.x.ok.nd).mp (j1.trans j2.symm))
      exact (p.sr.at_ m c b e1 e2).mono L.sub L.phi (upd_ne nb)
  exact ⟨p.ext x s2, L, x⟩
theorem meth_few {e : Expr} {cpos : Pos} (hp : plainE e = true) (env : PySem.Env) : ((backTo cpos (starEach [e] env)).all (fun x => !x.1) && (backToKw cpos (keywordEach [] env)).all (fun x => x.1.isSome) && decide (([e] : List Expr).length + ([] : List Keyword).length + (if ([] : List Keyword).isEmpty then 0 else 1) < 30)) = true := by
  rw [star_ok hp]
  rfl
/-- x.append(e) -/
theorem ss_append {i : Nat} {x : Str} {e : Expr} {m : E} {p1 apos cpos : Pos} (hK : X.K = C.K) (hi : X.N[i]? = some x) (hv : Vis X.env.scope x) (hd : (x == ("__debug__" : Str)) = false) (hcd : (x == ("__classdict__" : Str)) = false) (h1 : SE C F X .kept e m) (hp : plainE e = true) (hl : (apos.endLine == cpos.line) = true) :
    SS C F X (.Expr (.Call (.Attribute (.Name x p1) "append" apos) [e] [] cpos) pos) (.append i m) := by
  intro w0 w env σ st D E tk p h
  unfold ex at h
  split at h <;> (try exact h.elim)
  rename_i hla
  obtain ⟨d, st1, e1, h⟩ := toS_cases h
  refine tS_of (ps_expr (pe_bm PySem.F.plainAttrs_list PySem.F.slot_list_append PySem.F.type_list_append mt_append (pe_var hi hv hd hcd) (pa_cons pe_tE pa_nil (star_ok hp _ _)) rfl (meth_few hp _) hl (star_ok hp _ _) (by rw [backTo_any]; rfl)) rfl) ?_
  cases q : env[i]? with
  | none => rw [q] at h; exact h.elim
  | some s =>
    rw [q] at h
    obtain ⟨o, eo, r⟩ := p.er.get q
    cases s with
    | emp => exact h.elim
    | lck _ => exact h.elim
    | own d0 =>
      cases d0 <;> (try exact h.elim)
      rename_i xs
      obtain ⟨b, rfl, r⟩ := r
      cases r.h with
      | lst hb rb =>
        rename_i vs
        refine ⟨_, eo, .inl ⟨rfl, vs, SqL.of hb⟩, h1 w env σ st d st1 _ p.x.ok p.er p.sr e1 fun v w' x' s' r' => ?_⟩
        have p' := p.ext x' s'
        have hb' : w'.H b = some (.lst vs) := (r.keep x').trans hb
        simp only at h
        split at h <;> (try exact h.elim)
        rename_i hf
        have hz : vs.length < sizeLine := by
          rw [rb.length]
          exact fit_le hf
        refine ⟨b, vs, v, rfl, rfl, hb', hz, ?_⟩
        have rr : RVs C (w'.put b (.lst (vs ++ [v]))) (vs ++ [v]) (xs ++ [d]) := ((rb.ext x').append (.cons r' .nil)).later (Later.put x'.ok (r.ext x').s)
        obtain ⟨p2, L2⟩ := p'.change (o := .lst (vs ++ [v])) q eo (.lst upd_same rr)
        exact h _ σ p2 (x'.later.trans L2)
    | val d0 =>
      cases d0 <;> (try exact h.elim)
      rename_i n
      obtain ⟨v0, rfl, r⟩ := r
      cases r with
      | loc hq =>
        rename_i b
        simp only at h
        have hcell : ∃ xs, st1[n]? = some (.lst xs) := by
          cases q2 : st1[n]? with
          | none => rw [q2] at h; exact h.elim
          | some cl => rw [q2] at h; cases cl <;> first | exact ⟨_, rfl⟩ | exact h.elim
        obtain ⟨xs, hcell⟩ := hcell
        rw [hcell] at h
        have hcell0 : ∃ vs0, w.H b = some (.lst vs0) := by
          unfold lstAt at hla
          rw [q] at hla
          simp only at hla
          cases q2 : st[n]? with
          | none => rw [q2] at hla; cases hla
          | some cl =>
            rw [q2] at hla
            cases cl <;> (try cases hla)
            have cr := p.sr.at_ n _ b q2 hq
            cases cr with
            | lst hb _ => exact ⟨_, hb⟩
        obtain ⟨vs0, hv0⟩ := hcell0
        refine ⟨_, eo, .inl ⟨rfl, vs0, SqL.of hv0⟩, h1 w env σ st d st1 _ p.x.ok p.er p.sr e1 fun v w' x' s' r' => ?_⟩
        have p' := p.ext x' s'
        have hq' := x'.phi n b hq
        have cr := s'.at_ n _ b hcell hq'
        cases cr with
        | lst hb rb =>
          rename_i vs
          simp only at h
          split at h <;> (try exact h.elim)
          rename_i hf
          have hz : vs.length < sizeLine := by
            rw [rb.length]
            exact fit_le hf
          refine ⟨b, vs, v, rfl, rfl, hb, hz, ?_⟩
          have rr : RVs C (w'.put b (.lst (vs ++ [v]))) (vs ++ [v]) (xs ++ [d]) := (rb.append (.cons r' .nil)).later (Later.put x'.ok (x'.ok.out b (List.mem_of_getElem? hq')))
          obtain ⟨p2, L2, _⟩ := p'.storeSet (o := .lst (vs ++ [v])) hq' (.lst upd_same rr)
          exact h _ σ p2 (x'.later.trans L2)

theorem seqOf_eq {d : Mi.D} {ys : List Mi.D} (h : seqOf d = some ys) : d = .lst ys ∨ d = .tup ys := by
  unfold seqOf at h
  split at h <;> first | (cases h; exact .inl rfl) | (cases h; exact .inr rfl) | contradiction
/-- x.extend(e) -/
theorem ss_extend {i : Nat} {x : Str} {e : Expr} {m : E} {p1 apos cpos : Pos} (hK : X.K = C.K) (hi : X.N[i]? = some x) (hv : Vis X.env.scope x) (hd : (x == ("__debug__" : Str)) = false) (hcd : (x == ("__classdict__" : Str)) = false) (h1 : SE C F X .read e m) (hp : plainE e = true) (hl : (apos.endLine == cpos.line) = true) :
    SS C F X (.Expr (.Call (.Attribute (.Name x p1) "extend" apos) [e] [] cpos) pos) (.extend i m) := by
  intro w0 w env σ st D E tk p h
  unfold ex at h
  split at h
  case isFalse => exact h.elim
  rename_i hla
  obtain ⟨d, st1, e1, h⟩ := toS_cases h
  split at h <;> (try exact h.elim)
  rename_i ys hys
  have ed := seqOf_eq hys
  refine tS_of (ps_expr (pe_bm PySem.F.plainAttrs_list PySem.F.slot_list_extend PySem.F.type_list_extend MiX.mt_grow (pe_var hi hv hd hcd) (pa_cons pe_tE pa_nil (star_ok hp _ _)) rfl (meth_few hp _) hl (star_ok hp _ _) (by rw [backTo_any]; rfl)) rfl) ?_
  have arg : ∀ {v : V} {w' : Wd}, Ext w w' → StR C w' st1 → RM .read C w' v d → ∃ b2 us, v = .ref b2 ∧ (w'.H b2 = some (.lst us) ∨ SqT X.K w'.H b2 us) ∧ RVs C w' us ys := fun {v w'} x' s' r' => by
    rcases ed with ed | ed
    · obtain ⟨b2, us, e2, hb2, rb2⟩ := res_lst x'.ok s' r' ed
      exact ⟨b2, us, e2, .inl hb2, rb2⟩
    · obtain ⟨b2, us, e2, hb2, rb2⟩ := res_tup x'.ok r' ed
      exact ⟨b2, us, e2, .inr (by rw [hK]; exact hb2), rb2⟩
  cases q : env[i]? with
  | none => rw [q] at h; exact h.elim
  | some sl =>
    rw [q] at h
    obtain ⟨o, eo, r⟩ := p.er.get q
    cases sl with
    | emp => exact h.elim
    | lck _ => exact h.elim
    | own d0 =>
      cases d0 <;> (try exact h.elim)
      rename_i xs
      simp only at h
      split at h <;> (try exact h.elim)
      rename_i hf
      obtain ⟨b, rfl, r⟩ := r
      cases r.h with
      | lst hb rb =>
        rename_i vs
        refine ⟨_, eo, .inl ⟨rfl, vs, SqL.of hb⟩, h1 w env σ st d st1 _ p.x.ok p.er p.sr e1 fun v w' x' s' r' => ?_⟩
        have p' := p.ext x' s'
        have hb' : w'.H b = some (.lst vs) := (r.keep x').trans hb
        obtain ⟨b2, us, rfl, hb2, rb2⟩ := arg x' s' r'
        refine ⟨b, b2, vs, us, rfl, rfl, hb', hb2, by rw [rb.length, rb2.length]; exact fit_le hf, ?_⟩
        have rr : RVs C (w'.put b (.lst (vs ++ us))) (vs ++ us) (xs ++ ys) := ((rb.ext x').append rb2).later (Later.put x'.ok (r.ext x').s)
        obtain ⟨p2, L2⟩ := p'.change (o := .lst (vs ++ us)) q eo (.lst upd_same rr)
        exact h _ σ p2 (x'.later.trans L2)
    | val d0 =>
      cases d0 <;> (try exact h.elim)
      rename_i n
      obtain ⟨v0, rfl, r⟩ := r
      cases r with
      | loc hq =>
        rename_i b
        simp only at h
        have hcell : ∃ xs, st1[n]? = some (.lst xs) := by
          cases q2 : st1[n]? with
          | none => rw [q2] at h; exact h.elim
          | some cl => rw [q2] at h; cases cl <;> first | exact ⟨_, rfl⟩ | exact h.elim
        obtain ⟨xs, hcell⟩ := hcell
        rw [hcell] at h
        have hcell0 : ∃ vs0, w.H b = some (.lst vs0) := by
          unfold lstAt at hla
          rw [q] at hla
          simp only at hla
          cases q2 : st[n]? with
          | none => rw [q2] at hla; cases hla
          | some cl =>
            rw [q2] at hla
            cases cl <;> (try cases hla)
            have cr := p.sr.at_ n _ b q2 hq
            cases cr with
            | lst hb _ => exact ⟨_, hb⟩
        obtain ⟨vs0, hv0⟩ := hcell0
        refine ⟨_, eo, .inl ⟨rfl, vs0, SqL.of hv0⟩, h1 w env σ st d st1 _ p.x.ok p.er p.sr e1 fun v w' x' s' r' => ?_⟩
        have p' := p.ext x' s'
        have hq' := x'.phi n b hq
        have cr := s'.at_ n _ b hcell hq'
        obtain ⟨b2, us, rfl, hb2, rb2⟩ := arg x' s' r'
        cases cr with
        | lst hb rb =>
          rename_i vs
          simp only at h
          split at h <;> (try exact h.elim)
          rename_i hf
          refine ⟨b, b2, vs, us, rfl, rfl, hb, hb2, by rw [rb.length, rb2.length]; exact fit_le hf, ?_⟩
          have rr : RVs C (w'.put b (.lst (vs ++ us))) (vs ++ us) (xs ++ ys) := (rb.append rb2).later (Later.put x'.ok (x'.ok.out b (List.mem_of_getElem? hq')))
          obtain ⟨p2, L2, _⟩ := p'.storeSet (o := .lst (vs ++ us)) hq' (.lst upd_same rr)
          exact h _ σ p2 (x'.later.trans L2)
theorem noTup_sub {o i e : Expr} {ps : Pos} (env : PySem.Env) : swappedStores [.Subscript o i ps] e env = pure none := by
  cases e <;> rfl
/-- x[i] = e, x a list that the name alone holds -/
theorem ss_setix {i : Nat} {x : Str} {ix e : Expr} {mi m : E} {p1 ps : Pos} (hP : X.prog = C.P) (hW : X.w = C.W) (hK : X.K = C.K) (hu : X.A.units + 65 < cLine) (hi : X.N[i]? = some x) (hv : Vis X.env.scope x) (hd : (x == ("__debug__" : Str)) = false) (hcd : (x == ("__classdict__" : Str)) = false) (h1 : SE C F X .kept e m) (h2 : SE C F X .kept ix mi) (hs2 : noComp e = true) (hsl : noSlice ix = true) :
    SS C F X (.Assign [.Subscript (.Name x p1) ix ps] e pos) (.setix i mi m) := by
  intro w0 w env σ st D E tk p h
  unfold ex at h
  obtain ⟨d, st1, e1, h⟩ := toS_cases h
  obtain ⟨j, st2, e2, h⟩ := toS_cases h
  cases q : env[i]? with
  | none => rw [q] at h; exact h.elim
  | some s =>
    rw [q] at h
    obtain ⟨o, eo, r⟩ := p.er.get q
    cases s with
    | emp => exact h.elim
    | lck _ => exact h.elim
    | val d0 =>
      cases d0 <;> (try exact h.elim)
      rename_i n
      obtain ⟨v0, rfl, r⟩ := r
      cases r with
      | loc hq =>
        rename_i b
        simp only at h
        cases q2 : st2[n]? with
        | none => rw [q2] at h; exact h.elim
        | some cl =>
          rw [q2] at h
          cases cl <;> (try exact h.elim)
          rename_i ks vs
          simp only at h
          split at h <;> (try exact h.elim)
          rename_i hc
          obtain ⟨c1, c2⟩ := Bool.and_eq_true_iff.mp hc
          refine tS_of (ps_asg pe_tE (pg_sub (pe_var hi hv hd hcd) pe_tE (set_dictN hu) (fun v => by cases ix <;> first | rfl | cases hsl)) (by unfold swapsWithSole; exact noComp_sw hs2 _ _ _) (noTup_sub _) rfl) ?_
          refine h1 w env σ st d st1 _ p.x.ok p.er p.sr e1 fun v w1 x1 s1 r1 => ?_
          refine ⟨_, eo, h2 w1 env σ st1 _ st2 _ x1.ok (p.er.ext x1) s1 e2 fun y w2 x2 s2 r2 => ?_⟩
          have p' := (p.ext x1 s1).ext x2 s2
          have hq2 : w2.φ[n]? = some b := x2.phi _ _ (x1.phi _ _ hq)
          have z := s2.at_ n _ b q2 hq2
          cases z with
          | dcn g1 g2 g3 g4 =>
            rename_i es
            obtain ⟨kb, rfl, k1, k2⟩ := key_at x2.ok r2 c1
            have hle : es.length < sizeLine := by
              have l2 : es.length = ks.length := by rw [← g2.length]; exact (List.length_map ..).symm
              have := fit_le c2
              omega
            refine ⟨b, kb, es, toNK j, rfl, rfl, by rw [hP, hW]; exact g1, ⟨.inl (by rw [hP, hW]; exact g1), by rw [hK]; exact keys_at x2.ok g2 g3, by rw [hK]; exact k1, k2⟩, hle, ?_⟩
            rw [hP, hW]
            obtain ⟨i1, i2, i3⟩ := put_n (v := v) c1 r2 (RV.ext r1 x2) g2 g3 g4
            have L0 : Later w2 (w2.put b (dN C.P C.W b (putN es (toNK j) kb v))) := Later.put x2.ok (x2.ok.out b (List.mem_of_getElem? hq2))
            obtain ⟨p3, L3, _⟩ := p'.storeSet (o := dN C.P C.W b (putN es (toNK j) kb v)) (cl := .dcn (putK j d ks vs).1 (putK j d ks vs).2) hq2 (.dcn upd_same (i1.later L0) i2 (i3.later L0))
            exact h _ σ p3 ((x1.later.trans x2.later).trans L3)
    | own d0 =>
      obtain ⟨b, rfl, r⟩ := r
      cases hr : r.h with
      | lst hb rb =>
        rename_i vs xs
        simp only at h
        cases j <;> (try exact h.elim)
        rename_i k
        simp only at h
        split at h <;> (try exact h.elim)
        rename_i n en
        refine tS_of (ps_asg pe_tE (pg_sub (pe_var hi hv hd hcd) pe_tE set_list (fun v => by cases ix <;> first | rfl | cases hsl)) (by unfold swapsWithSole; exact noComp_sw hs2 _ _ _) (noTup_sub _) rfl) ?_
        refine h1 w env σ st d st1 _ p.x.ok p.er p.sr e1 fun v w1 x1 s1 r1 => ?_
        refine ⟨_, eo, h2 w1 env σ st1 _ st2 _ x1.ok (p.er.ext x1) s1 e2 fun y w2 x2 s2 r2 => ?_⟩
        have p' := (p.ext x1 s1).ext x2 s2
        have hb' : w2.H b = some (.lst vs) := ((r.ext x1).keep x2).trans ((r.keep x1).trans hb)
        cases r2
        have en' : L2.ixN vs.length k = some n := by rw [rb.length]; exact en
        refine ⟨b, vs, k, n, rfl, rfl, hb', en', ?_⟩
        have rr : RVs C (w2.put b (.lst (vs.set n v))) (vs.set n v) (xs.set n d) := (RVs.set (RV.ext r1 x2) n ((rb.ext x1).ext x2)).later (Later.put x2.ok ((r.ext x1).ext x2).s)
        obtain ⟨p2, L2⟩ := p'.change (o := .lst (vs.set n v)) q eo (.lst upd_same rr)
        exact h _ σ p2 ((x1.later.trans x2.later).trans L2)
      | dct hb rb =>
        rename_i ks us ds
        obtain ⟨kvs, hb, rfl, rfl, nd⟩ := hb
        simp only at h
        cases j <;> (try exact h.elim)
        rename_i k
        simp only at h
        split at h <;> (try exact h.elim)
        rename_i hc
        refine tS_of (ps_asg pe_tE (pg_sub (pe_var hi hv hd hcd) pe_tE (set_dictK hu) (fun v => by cases ix <;> first | rfl | cases hsl)) (by unfold swapsWithSole; exact noComp_sw hs2 _ _ _) (noTup_sub _) rfl) ?_
        refine h1 w env σ st d st1 _ p.x.ok p.er p.sr e1 fun v w1 x1 s1 r1 => ?_
        refine ⟨_, eo, h2 w1 env σ st1 _ st2 _ x1.ok (p.er.ext x1) s1 e2 fun y w2 x2 s2 r2 => ?_⟩
        have p' := (p.ext x1 s1).ext x2 s2
        have hb' : w2.H b = some (.dK kvs) := ((r.ext x1).keep x2).trans ((r.keep x1).trans hb)
        cases r2
        have hle : kvs.length < sizeLine := by
          have := fit_le hc
          rw [List.length_map] at this
          omega
        refine ⟨b, _, rfl, DPut.k (k := .inl k) hb' hle, ?_⟩
        obtain ⟨i1, i2, i3⟩ := put_k (i := k) (RV.ext r1 x2) ((rb.ext x1).ext x2) nd
        have L0 : Later w2 (w2.put b (.dK (L2.putK kvs (.inl k) v))) := Later.put x2.ok ((r.ext x1).ext x2).s
        obtain ⟨p2, L2⟩ := p'.change (o := .dK (L2.putK kvs (.inl k) v)) q eo (.dct ⟨_, upd_same, i1, rfl, i3⟩ (i2.later L0))
        exact h _ σ p2 ((x1.later.trans x2.later).trans L2)
      | dcn hb rk nq rb =>
        rename_i es ks ds
        simp only at h
        split at h <;> (try exact h.elim)
        rename_i hc
        obtain ⟨c1, c2⟩ := Bool.and_eq_true_iff.mp hc
        refine tS_of (ps_asg pe_tE (pg_sub (pe_var hi hv hd hcd) pe_tE (set_dictN hu) (fun v => by cases ix <;> first | rfl | cases hsl)) (by unfold swapsWithSole; exact noComp_sw hs2 _ _ _) (noTup_sub _) rfl) ?_
        refine h1 w env σ st d st1 _ p.x.ok p.er p.sr e1 fun v w1 x1 s1 r1 => ?_
        refine ⟨_, eo, h2 w1 env σ st1 _ st2 _ x1.ok (p.er.ext x1) s1 e2 fun y w2 x2 s2 r2 => ?_⟩
        have p' := (p.ext x1 s1).ext x2 s2
        have hb' : w2.H b = some (dN C.P C.W b es) := ((r.ext x1).keep x2).trans ((r.keep x1).trans hb)
        obtain ⟨kb, rfl, k1, k2⟩ := key_at x2.ok r2 c1
        have g2 := (rk.ext x1).ext x2
        have hle : es.length < sizeLine := by
          have l2 : es.length = ks.length := by rw [← rk.length]; exact (List.length_map ..).symm
          have := fit_le c2
          omega
        refine ⟨b, kb, es, toNK j, rfl, rfl, by rw [hP, hW]; exact hb', ⟨.inl (by rw [hP, hW]; exact hb'), by rw [hK]; exact keys_at x2.ok g2 nq, by rw [hK]; exact k1, k2⟩, hle, ?_⟩
        rw [hP, hW]
        obtain ⟨i1, i2, i3⟩ := put_n (v := v) c1 r2 (RV.ext r1 x2) g2 nq ((rb.ext x1).ext x2)
        have L0 : Later w2 (w2.put b (dN C.P C.W b (putN es (toNK j) kb v))) := Later.put x2.ok ((r.ext x1).ext x2).s
        obtain ⟨p2, L2⟩ := p'.change (o := dN C.P C.W b (putN es (toNK j) kb v)) q eo (.dcn upd_same (i1.later L0) i2 (i3.later L0))
        exact h _ σ p2 ((x1.later.trans x2.later).trans L2)
/-- x += e, x -= e (ints) -/
theorem ss_aug {i : Nat} {x : Str} {op : Operator} {o : Op} {f : Int → Int → Int} {e : Expr} {m : E} {p1 : Pos} (hN : X.N.Nodup) (hi : X.N[i]? = some x) (hx : Loc X.env.scope x) (hf : X.fn x = true ∨ X.env.scope.names.lookup x = some .local) (ho : PIp X op (ipI f)) (hb : ∀ a b, bin o (.int a) (.int b) = some (.int (f a b))) (h1 : SE C F X .kept e m) : SS C F X (.AugAssign (.Name x p1) op e pos) (.aug i o m) := by
  intro w0 w env σ st D E tk p h
  unfold ex at h
  obtain ⟨d, st1, e1, h⟩ := toS_cases h
  cases q : env[i]? with
  | none => rw [q] at h; exact h.elim
  | some s =>
    rw [q] at h
    obtain ⟨o', eo, r⟩ := p.er.get q
    cases s with
    | emp => exact h.elim
    | lck _ => exact h.elim
    | own d0 => exact h.elim
    | val d0 =>
      cases d0 <;> (try exact h.elim)
      rename_i k
      cases d <;> (try exact h.elim)
      rename_i k2
      simp only [hb] at h
      obtain ⟨v0, rfl, r⟩ := r
      cases r
      refine tS_of (ps_aug hN hi hx pe_tE ho hf) ⟨_, eo, h1 w env σ st _ st1 _ p.x.ok p.er p.sr e1 fun v w1 x1 s1 r1 => ?_⟩
      cases r1
      have p' := p.ext x1 s1
      refine ⟨k, k2, rfl, rfl, ?_⟩
      have hlt := (List.getElem?_eq_some_iff.mp q).1
      have hbd : Mi.bind (.name i) (.int (f k k2)) env = some (env.set i (.val (.int (f k k2)))) := by
        unfold Mi.bind
        rw [if_pos hlt, q]
      refine h w1 _ (p'.bind hbd (p'.er.setVal (.int _) i) ⟨by simp, fun j hj => ?_⟩) x1.later
      rw [List.getElem?_set_ne]
      intro z
      subst z
      exact hj (by simp [tslots])

/-! ### loops -/
theorem ss_for {tg iter : Expr} {body : List Stmt} {t : T} {mit : E} {mb : List S} (hpo : PassesOwn (model X.prog X.w) X.A X.env X.xe) (hc : X.calm = true) (hi : SI C F X .walk tg iter mit) (hg : SG C X tg t) (hb_ : SL C F X body mb) (hs : ∀ x, foldedSetIterable iter X.env x = pure x) (hloc : ∀ env st n st', ev F .walk mit env st = .ok (.loc n) st' → SE C F X .walk iter mit) : SS C F X (.For tg iter body [] pos) (.for_ t mit mb) := by
  intro w0 w env σ st D E tk p h
  unfold ex at h
  obtain ⟨dx, st1, e1, h⟩ := toS_cases h
  split at h
  case h_2 =>
    split at h <;> (try exact h.elim)
    rename_i n _
    split at h <;> (try exact h.elim)
    rename_i xs hcell
    obtain ⟨turn, hturn⟩ : ∃ turn : Mi.D → Env → Store → RS, turn = (fun x env st => match Mi.bind t x env with
        | some env => exs F mb env st
        | none => .bad) := ⟨_, rfl⟩
    have h : SEnds C w0 w D E (forLoc turn n xs.length xs.length env st1) := by rw [hturn]; exact h
    refine tS_of (ps_for hpo hc (pi_seq pe_tE) pg_tG pss_tSs hs) (hloc env st n st1 e1 w env σ st (.loc n) st1 _ p.x.ok p.er p.sr e1 fun v w1 x1 s1 r1 => ?_)
    have r1 : RV C w1 v (.loc n) := r1
    cases r1 with
    | loc hq =>
      rename_i b
      have cr0 := s1.at_ n _ b hcell hq
      obtain ⟨vs0, hb0⟩ : ∃ vs0, w1.H b = some (.lst vs0) := by cases cr0 with | lst hb _ => exact ⟨_, hb⟩
      refine ⟨b, rfl, .inl ⟨vs0, SqL.of hb0, fun _ => ?_⟩⟩
      refine ⟨fun i m σ H => m = xs.length - i ∧ i ≤ xs.length ∧ ∃ (wi : Wd) (envi : Env) (sti : Store), wi.H = H ∧ Pt C w0 wi envi σ sti ∧ Later w1 wi ∧ SEnds C w0 w D E (forLoc turn n xs.length (xs.length - i) envi sti), ⟨xs.length, by simp, Nat.zero_le _, w1, env, st1, rfl, p.ext x1 s1, Later.refl x1.ok, h⟩, ?_⟩
      rintro i m σi H ⟨rfl, hil, wi, envi, sti, rfl, pi, L, hi'⟩
      have hqi := L.phi n b hq
      by_cases hlt : i < xs.length
      · have ek : xs.length - i = (xs.length - (i + 1)) + 1 := by omega
        rw [ek] at hi'
        unfold forLoc at hi'
        split at hi' <;> (try exact hi'.elim)
        rename_i ys hys
        split at hi' <;> (try exact hi'.elim)
        rename_i x0 hx0
        rw [show xs.length - (xs.length - (i + 1) + 1) = i by omega] at hx0
        have cr := pi.sr.at_ n _ b hys hqi
        cases cr with
        | lst hb rb =>
          rename_i vs
          obtain ⟨v, ev, rv⟩ := rb.get hx0
          refine .inr ⟨⟨vs, v, SqL.of hb, ev⟩, fun σ' H' => ∃ (wi : Wd) (envi : Env) (sti : Store), wi.H = H' ∧ Pt C w0 wi envi σ' sti ∧ Later w1 wi ∧ SEnds C w0 w D E (forLoc turn n xs.length (xs.length - (i + 1)) envi sti), fun σ' H' q => ⟨xs.length - (i + 1), by omega, rfl, hlt, q⟩, fun x H' hyl => ?_⟩
          obtain ⟨rfl, hyl⟩ := hyl
          have e2 := hyl vs (SqL.of hb)
          rw [ev] at e2
          cases e2
          cases eb : Mi.bind t x0 envi with
          | none =>
            have : turn x0 envi sti = .bad := by rw [hturn]; simp only [eb]
            rw [this] at hi'
            exact hi'.elim
          | some env2 =>
            have et : turn x0 envi sti = exs F mb env2 sti := by rw [hturn]; simp only [eb]
            rw [et] at hi'
            refine hg wi envi σi v x0 env2 _ pi.x.ok pi.er rv eb fun σ2 er2 o2 => ?_
            refine hb_ w0 wi env2 σ2 sti _ E tk (pi.bind eb er2 o2) ?_
            cases er : exs F mb env2 sti with
            | next env3 st3 =>
              rw [er] at hi'
              intro w' σ' p' l'
              exact ⟨w', env3, st3, rfl, p', L.trans l', hi'⟩
            | ret d st3 => rw [er] at hi'; exact hi'
            | err c st3 => rw [er] at hi'; exact hi'
            | bad => rw [er] at hi'; exact hi'.elim
      · have hi2 : i = xs.length := by omega
        subst hi2
        rw [Nat.sub_self] at hi'
        unfold forLoc at hi'
        split at hi' <;> (try exact hi'.elim)
        rename_i ys hys
        split at hi' <;> (try exact hi'.elim)
        rename_i hle
        have cr := pi.sr.at_ n _ b hys hqi
        cases cr with
        | lst hb rb =>
          rename_i vs
          exact .inl ⟨⟨vs, SqL.of hb, by rw [rb.length]; exact hle⟩, hi' wi σi pi (x1.later.trans L)⟩
  rename_i xs exs_
  refine tS_of (ps_for hpo hc pi_tI pg_tG pss_tSs hs) (hi w env σ st dx st1 xs _ p.x.ok p.er p.sr e1 exs_ fun J w1 x1 s1 hn it => ?_)
  obtain ⟨turn, hturn⟩ : ∃ turn : Mi.D → Env → Store → RS, turn = (fun x env st => match Mi.bind t x env with
      | some env => exs F mb env st
      | none => .bad) := ⟨_, rfl⟩
  have h : SEnds C w0 w D E (forGo turn xs env st1) := by rw [hturn]; exact h
  refine ⟨fun i m σ H => m = xs.length - i ∧ i ≤ xs.length ∧ ∃ (wi : Wd) (envi : Env) (sti : Store), wi.H = H ∧ Pt C w0 wi envi σ sti ∧ Later w1 wi ∧ SEnds C w0 w D E (forGo turn (xs.drop i) envi sti), ⟨xs.length, by simp, Nat.zero_le _, w1, env, st1, rfl, p.ext x1 s1, Later.refl x1.ok, h⟩, ?_⟩
  rintro i m σi H ⟨rfl, hil, wi, envi, sti, rfl, pi, L, hi'⟩
  obtain ⟨it1, it2⟩ := it wi L
  by_cases hlt : i < xs.length
  · have hget : xs[i]? = some xs[i] := List.getElem?_eq_getElem hlt
    obtain ⟨hgo, hy⟩ := it1 i _ hget
    rw [List.drop_eq_getElem_cons hlt] at hi'
    unfold forGo at hi'
    refine .inr ⟨hgo, fun σ' H' => ∃ (wi : Wd) (envi : Env) (sti : Store), wi.H = H' ∧ Pt C w0 wi envi σ' sti ∧ Later w1 wi ∧ SEnds C w0 w D E (forGo turn (xs.drop (i + 1)) envi sti), fun σ' H' q => ⟨xs.length - (i + 1), by omega, rfl, hlt, q⟩, fun x H' hyl => ?_⟩
    obtain ⟨w2, g2, rfl, rx⟩ := hy x H' hyl
    have p2 : Pt C w0 w2 envi σi sti := pi.ext g2.x (pi.sr.grow g2)
    cases eb : Mi.bind t xs[i] envi with
    | none =>
      have : turn xs[i] envi sti = .bad := by rw [hturn]; simp only [eb]
      rw [this] at hi'
      exact hi'.elim
    | some env2 =>
      have et : turn xs[i] envi sti = exs F mb env2 sti := by rw [hturn]; simp only [eb]
      rw [et] at hi'
      refine hg w2 envi σi x xs[i] env2 _ g2.x.ok p2.er rx eb fun σ2 er2 o2 => ?_
      refine hb_ w0 w2 env2 σ2 sti _ E tk (p2.bind eb er2 o2) ?_
      cases er : exs F mb env2 sti with
      | next env3 st3 =>
        rw [er] at hi'
        intro w' σ' p' l'
        exact ⟨w', env3, st3, rfl, p', (L.trans g2.x.later).trans l', hi'⟩
      | ret d st3 => rw [er] at hi'; exact hi'
      | err c st3 => rw [er] at hi'; exact hi'
      | bad => rw [er] at hi'; exact hi'.elim
  · have hi2 : i = xs.length := by omega
    subst hi2
    rw [List.drop_of_length_le (Nat.le_refl _)] at hi'
    exact .inl ⟨it2, hi' wi σi pi (x1.later.trans L)⟩
theorem ss_while {t : Expr} {mt : E} {body : List Stmt} {mb : List S} (hpo : PassesOwn (model X.prog X.w) X.A X.env X.xe) (ht : ST C F X t mt) (hb : SL C F X body mb) : SS C F X (.While t body [] pos) (.while_ mt mb) := by
  intro w0 w env σ st D E tk p h
  unfold ex at h
  refine tS_of (ps_while hpo pt_tT pss_tSs) ?_
  refine ⟨fun m σ H => ∃ (wi : Wd) (envi : Env) (sti : Store), wi.H = H ∧ Pt C w0 wi envi σ sti ∧ Later w wi ∧ SEnds C w0 w D E (whileGo (fun env st => ev F .read mt env st) (fun env st => exs F mb env st) m envi sti), ⟨whileFuel, w, env, st, rfl, p, Later.refl p.x.ok, h⟩, ?_⟩
  rintro m σi H ⟨wi, envi, sti, rfl, pi, L, hi'⟩
  cases m with
  | zero => exact hi'.elim
  | succ m =>
    unfold whileGo at hi'
    cases et : ev F .read mt envi sti with
    | err c s => rw [et] at hi'; exact hi'.elim
    | bad => rw [et] at hi'; exact hi'.elim
    | ok d s =>
      rw [et] at hi'
      have hd : ∃ k, d = .bl k := by cases d <;> first | exact ⟨_, rfl⟩ | exact hi'.elim
      obtain ⟨k, rfl⟩ := hd
      refine ht wi envi σi sti _ s _ pi.x.ok pi.er pi.sr et (fun b w1 x1 s1 eb => ?_) ⟨k, rfl⟩
      cases eb
      cases k with
      | false =>
        rw [if_neg (by decide)]
        exact hi' w1 σi (pi.ext x1 s1) (L.trans x1.later)
      | true =>
        rw [if_pos rfl]
        refine ⟨fun σ' H' => ∃ (wi : Wd) (envi : Env) (sti : Store), wi.H = H' ∧ Pt C w0 wi envi σ' sti ∧ Later w wi ∧ SEnds C w0 w D E (whileGo (fun env st => ev F .read mt env st) (fun env st => exs F mb env st) m envi sti), fun σ' H' q => ⟨m, Nat.lt_succ_self _, q⟩, ?_⟩
        refine hb w0 w1 envi σi s _ E tk (pi.ext x1 s1) ?_
        simp only at hi'
        cases er : exs F mb envi s with
        | next env3 st3 =>
          rw [er] at hi'
          intro w' σ' p' l'
          exact ⟨w', env3, st3, rfl, p', (L.trans x1.later).trans l', hi'⟩
        | ret d st3 => rw [er] at hi'; exact hi'
        | err c st3 => rw [er] at hi'; exact hi'
        | bad => rw [er] at hi'; exact hi'.elim
end
end Mi

set_option Elab.async false
set_option linter.all false
set_option maxRecDepth 100000
set_option maxHeartbeats 1000000
/-! Mi9c: a, b = x, y. -/
namespace Mi
open PySem PySem.Spec PyProof.Rows L2
def swapNames (env : PySem.Env) (ts : List Expr) : List Str := ts.filterMap fun
    | .Name id pos => if env.kindOf id == some .local && pos.line == (ts.head?.map (·.pos.line)).getD 0 then some id else none
    | _ => none
def isStar : Expr → Bool
  | .Starred .. => true
  | _ => false
theorem swapped_eq (ts vs : List Expr) (k k2 : Nat) (p p2 : Pos) (env : PySem.Env) : swappedStores [.Tuple ts k p] (.Tuple vs k2 p2) env =
    (if (!(ts.length == 2 || ts.length == 3) || vs.length != ts.length || env.blockKind != .function) = true then pure none
     else if vs.any isStar = true then pure none
     else if ((swapNames env ts).length != ts.length || (swapNames env ts).eraseDups.length != (swapNames env ts).length) = true then pure none
     else if vs.all (foldedForSure 8) = true then pure none
     else if vs.all (constantsAlone 8) = true then (do unsupported "assign.tuple-of-constant-expressions:order-of-the-stores"; pure (some (swapNames env ts)))
     else pure (some (swapNames env ts))) := by
  unfold swappedStores swapNames
  rfl
section
variable {C : Ct} {F : Fns} {X : Cx} {md : Md} {a b c : Expr} {ma mb mc : E} {pos : Pos}
/-- values, some of them new things that nobody else holds -/
inductive RFs (C : Ct) (w0 w : Wd) : List Bool → List V → List D → Prop
  | nil : RFs C w0 w [] [] []
  | val {v : V} {d : D} {os : List Bool} {vs : List V} {ds : List D} : RV C w v d → RFs C w0 w os vs ds → RFs C w0 w (false :: os) (v :: vs) (d :: ds)
  | own {p : Addr} {d : D} {os : List Bool} {vs : List V} {ds : List D} : OwR C w p d → w0.H p = none → (∀ i : Nat, os[i]? = some true → vs[i]? ≠ some (.ref p)) → RFs C w0 w os vs ds → RFs C w0 w (true :: os) (.ref p :: vs) (d :: ds)
theorem RFs.len {w0 w : Wd} : ∀ {os : List Bool} {vs : List V} {ds : List D}, RFs C w0 w os vs ds → vs.length = ds.length ∧ os.length = ds.length
  | _, _, _, .nil => ⟨rfl, rfl⟩
  | _, _, _, .val _ r => by have := RFs.len r; simp [this]
  | _, _, _, .own _ _ _ r => by have := RFs.len r; simp [this]
theorem RFs.at {w0 w : Wd} : ∀ {os : List Bool} {vs : List V} {ds : List D}, RFs C w0 w os vs ds → ∀ (i : Nat) (v : V), os[i]? = some true → vs[i]? = some v → ∃ p, v = .ref p ∧ w0.H p = none
  | _, _, _, .nil, i, v, e, _ => by simp at e
  | _, _, _, .val _ r, 0, v, e, _ => by simp at e
  | _, _, _, .val _ r, i + 1, v, e, e2 => RFs.at r i v (by simpa using e) (by simpa using e2)
  | _, _, _, .own _ h _ r, 0, v, e, e2 => by simp at e2; exact ⟨_, e2.symm, h⟩
  | _, _, _, .own _ _ _ r, i + 1, v, e, e2 => RFs.at r i v (by simpa using e) (by simpa using e2)
theorem RFs.back {w0 w0' w : Wd} (x : Ext w0' w0) : ∀ {os : List Bool} {vs : List V} {ds : List D}, RFs C w0 w os vs ds → RFs C w0' w os vs ds
  | _, _, _, .nil => .nil
  | _, _, _, .val h r => .val h (RFs.back x r)
  | _, _, _, .own h n d r => .own h (x.none n) d (RFs.back x r)
theorem RFs.ext {w0 w w' : Wd} (x : Ext w w') : ∀ {os : List Bool} {vs : List V} {ds : List D}, RFs C w0 w os vs ds → RFs C w0 w' os vs ds
  | _, _, _, .nil => .nil
  | _, _, _, .val h r => .val (h.ext x) (RFs.ext x r)
  | _, _, _, .own h n d r => .own (h.ext x) n d (RFs.ext x r)
def SM (C : Ct) (F : Fns) (X : Cx) (os : List Bool) (es : List Expr) (ms : List E) : Prop := ∀ (w : Wd) (env : Env) (σ : Slots) (st : Store) (ds : List D) (st' : Store) (Q : List V → Hp → Prop), Wok w → EnvR C w env σ → StR C w st → evs F .kept ms env st = .ok ds st' →
  (∀ (i : Nat) (d : D), os[i]? = some true → ds[i]? = some d → mutD d = true) → (∀ vs w', Ext w w' → StR C w' st' → RFs C w w' os vs ds → Q vs w'.H) → tA X es σ w.H Q
theorem sm_nil : SM C F X [] [] [] := by
  intro w env σ st ds st' Q ok er sr e _ h
  cases e
  exact tA_of pa_nil (h [] w (Ext.refl ok) sr .nil)
theorem sm_val {e : Expr} {es : List Expr} {m : E} {ms : List E} {os : List Bool} (h1 : SE C F X .kept e m) (h2 : SM C F X os es ms) (hp : plainE e = true) : SM C F X (false :: os) (e :: es) (m :: ms) := by
  intro w env σ st ds st' Q ok er sr ee hm h
  unfold evs at ee
  obtain ⟨d, st1, e1, ee⟩ := bind_ok ee
  obtain ⟨ds1, st2, e2, ee⟩ := bind_ok ee
  cases ee
  refine tA_of (pa_cons pe_tE pa_tA (star_ok hp _ _)) ?_
  refine h1 w env σ st d st1 _ ok er sr e1 fun v w1 x1 s1 r1 => ?_
  refine h2 w1 env σ st1 ds1 st' _ x1.ok (er.ext x1) s1 e2 (fun i d' h1 h2 => hm (i + 1) d' (by simpa using h1) (by simpa using h2)) fun vs w2 x2 s2 r2 => ?_
  exact h (v :: vs) w2 (x1.trans x2) s2 (.val (RV.ext r1 x2) (r2.back x1))
theorem sm_own {e : Expr} {es : List Expr} {m : E} {ms : List E} {os : List Bool} (h1 : SF C F X e m) (h2 : SM C F X os es ms) (hp : plainE e = true) : SM C F X (true :: os) (e :: es) (m :: ms) := by
  intro w env σ st ds st' Q ok er sr ee hm h
  unfold evs at ee
  obtain ⟨d, st1, e1, ee⟩ := bind_ok ee
  obtain ⟨ds1, st2, e2, ee⟩ := bind_ok ee
  cases ee
  have hd : mutD d = true := hm 0 d rfl rfl
  refine tA_of (pa_cons pe_tE pa_tA (star_ok hp _ _)) ?_
  refine h1 w env σ st d st1 _ ok er sr e1 hd fun p w1 x1 s1 r1 hn => ?_
  refine h2 w1 env σ st1 ds1 st' _ x1.ok (er.ext x1) s1 e2 (fun i d' h1 h2 => hm (i + 1) d' (by simpa using h1) (by simpa using h2)) fun vs w2 x2 s2 r2 => ?_
  refine h (.ref p :: vs) w2 (x1.trans x2) s2 (.own (r1.ext x2) hn (fun i e1 e2 => ?_) (r2.back x1))
  obtain ⟨q, e3, e4⟩ := r2.at i _ e1 e2
  cases e3
  obtain ⟨o, ho⟩ := r1.h.thr
  rw [ho] at e4; cases e4
def setσ : List Nat → List V → Slots → Slots
  | i :: is, v :: vs, σ => setσ is vs (σ.set i (some v))
  | _, _, σ => σ
theorem Pt.sets {w0 w : Wd} {st : Store} : ∀ {is : List Nat} {os : List Bool} {vs : List V} {ds : List D} {env env' : Env} {σ : Slots}, Pt C w0 w env σ st → RFs C w0 w os vs ds → is.length = os.length →
    (∀ (i : Nat) (p : Addr), os[i]? = some true → vs[i]? = some (.ref p) → ∀ (j : Nat) (s : Sl), env[j]? = some s → isOwn s = true → σ[j]? ≠ some (some (.ref p))) → setsE (is.zip os) ds env = some env' → Pt C w0 w env' (setσ is vs σ) st
  | [], [], _, _, env, env', σ, p, .nil, _, _, e => by cases e; exact p
  | i :: is, false :: os, _, _, env, env', σ, p, .val r rs, hl, hf, e => by
    rename_i v d vs ds
    have e : (if freeAt env i && (!false || mutD d) then setsE (is.zip os) ds (env.set i (.val d)) else none) = some env' := e
    split at e <;> (try contradiction)
    rename_i hfr
    have hfr := (Bool.and_eq_true_iff.mp hfr).1
    have hb : Mi.bind (.name i) d env = some (env.set i (.val d)) := by
      unfold Mi.bind
      unfold freeAt at hfr
      cases q : env[i]? with
      | none => rw [q] at hfr; cases hfr
      | some s0 =>
        rw [if_pos (List.getElem?_eq_some_iff.mp q).1]
        rw [q] at hfr
        cases s0 <;> first | rfl | cases hfr
    have p2 : Pt C w0 w (env.set i (.val d)) (σ.set i (some v)) st := p.bind hb (p.er.setVal r i) ⟨by simp, fun j hj => List.getElem?_set_ne (fun z => hj (by simp [tslots, z]))⟩
    refine Pt.sets (is := is) p2 rs (by simpa using hl) (fun k q h1 h2 j s e1 e2 => ?_) e
    obtain ⟨a1, a2⟩ := bind_own hb j s e1 e2
    have hj : i ≠ j := fun z => a1 (by simp [tslots, z])
    rw [List.getElem?_set_ne hj]
    exact hf (k + 1) q (by simpa using h1) (by simpa using h2) j s a2 e2
  | i :: is, true :: os, _, _, env, env', σ, p, .own r hn hd rs, hl, hf, e => by
    rename_i q d vs ds
    have e : (if freeAt env i && (!true || mutD d) then setsE (is.zip os) ds (env.set i (.own d)) else none) = some env' := e
    split at e <;> (try contradiction)
    have p2 : Pt C w0 w (env.set i (.own d)) (σ.set i (some (.ref q))) st := p.setOwn r hn fun j s _ e1 e2 => hf 0 q rfl rfl j s e1 e2
    refine Pt.sets (is := is) p2 rs (by simpa using hl) (fun k q' h1 h2 j s e1 e2 => ?_) e
    by_cases hj : i = j
    · subst hj
      intro z
      have z2 : some (V.ref q) = some (.ref q') := by
        rw [List.getElem?_set] at z
        simp only [if_true] at z
        split at z
        · exact Option.some.inj z
        · cases z
      cases z2
      exact hd k h1 h2
    · rw [List.getElem?_set_ne hj] at e1 ⊢
      exact hf (k + 1) q' (by simpa using h1) (by simpa using h2) j s e1 e2
/-- the ends of all three forms -/
theorem par_end {w0 w : Wd} {env : Env} {σ : Slots} {st st1 : Store} {D' : Ends} {E' : XK} {is : List Nat} {os : List Bool} {es : List Expr} {ms : List E} {ds : List Mi.D} (hm : SM C F X os es ms) (p : Pt C w0 w env σ st) (e1 : evs F .kept ms env st = .ok ds st1) (hl : is.length = os.length)
    (h : SEnds C w0 w D' E' (match setsE (is.zip os) ds env with | some env => .next env st1 | none => .bad)) {Q : List V → Hp → Prop} (hq : ∀ vs w1, Ext w w1 → vs.length = ds.length → (∀ w2, Ext w1 w2 → StR C w2 st1 → D'.nx (setσ is vs σ) w2.H) → StR C w1 st1 → Q vs w1.H) (hmu : ∀ (i : Nat) (d : Mi.D), os[i]? = some true → ds[i]? = some d → mutD d = true) : tA X es σ w.H Q := by
  refine hm w env σ st ds st1 _ p.x.ok p.er p.sr e1 hmu fun vs w1 x1 s1 r1 => hq vs w1 x1 r1.len.1 (fun w2 x2 s2 => ?_) s1
  cases e : setsE (is.zip os) ds env with
  | none => rw [e] at h; exact h.elim
  | some env' =>
    rw [e] at h
    have p2 : Pt C w0 w2 env σ st1 := p.ext (x1.trans x2) s2
    refine h w2 _ (p2.sets (r1.back p.x |>.ext x2) hl (fun i q h1 h2 j s e1 e2 => ?_) e) (x1.later.trans x2.later)
    obtain ⟨q', e3, e4⟩ := r1.at i _ h1 h2
    cases e3
    exact p.er.new e4 j s e1 e2
theorem setsE_mut : ∀ {is : List Nat} {os : List Bool} {ds : List Mi.D} {env env' : Env}, is.length = os.length → setsE (is.zip os) ds env = some env' → ∀ (i : Nat) (d : Mi.D), os[i]? = some true → ds[i]? = some d → mutD d = true
  | [], [], _, _, _, _, _, i, d, e1, _ => by simp at e1
  | i :: is, o :: os, [], _, _, _, e, _, _, _, e2 => by simp at e2
  | i :: is, o :: os, d :: ds, env, env', hl, e, j, d', e1, e2 => by
    have e : (if freeAt env i && (!o || mutD d) then setsE (is.zip os) ds (env.set i (if o then .own d else .val d)) else none) = some env' := e
    split at e <;> (try contradiction)
    rename_i hf
    cases j with
    | zero =>
      simp at e1 e2
      subst e1 e2
      have := (Bool.and_eq_true_iff.mp hf).2
      simpa using this
    | succ j => exact setsE_mut (by simpa using hl) e j d' (by simpa using e1) (by simpa using e2)
end
section
variable {C : Ct} {F : Fns} {X : Cx} {md : Md} {a b c : Expr} {ma mb mc : E} {pos : Pos}
theorem par_go {w0 w : Wd} {env : Env} {σ : Slots} {st : Store} {D' : Ends} {E' : XK} {is : List Nat} {os : List Bool} {es : List Expr} {ms : List E} (hm : SM C F X os es ms) (p : Pt C w0 w env σ st) (hl : is.length = os.length) (h : SEnds C w0 w D' E' (ex F (.par (is.zip os) ms) env st))
    {Q : List V → Hp → Prop} (hq : ∀ vs w1, Ext w w1 → vs.length = ms.length → (∀ w2, Ext w1 w2 → (∀ st1, StR C w1 st1 → StR C w2 st1) → D'.nx (setσ is vs σ) w2.H) → Q vs w1.H) : tA X es σ w.H Q := by
  unfold ex at h
  obtain ⟨ds, st1, e1, h⟩ := toSs_cases h
  cases e : setsE (is.zip os) ds env with
  | none => rw [e] at h; exact h.elim
  | some env' =>
    have h' := h
    rw [e] at h'
    refine par_end hm p e1 hl h (fun vs w1 x1 l1 hnx s1 => hq vs w1 x1 (by rw [l1, evs_len e1]) fun w2 x2 hs => hnx w2 x2 (hs st1 s1)) (setsE_mut hl e)
theorem ss_par2 {i j : Nat} {o1 o2 : Bool} {x y : Str} {px py pt : Pos} {kt k2 pt2} (hc : X.calm = true) (hN : X.N.Nodup) (hi : X.N[i]? = some x) (hj : X.N[j]? = some y) (hij : i ≠ j)
    (hx : X.env.scope.names.lookup x = some .local) (hy : X.env.scope.names.lookup y = some .local) (hm : SM C F X [o1, o2] [a, b] [ma, mb])
    (hw : swappedStores [.Tuple [.Name x px, .Name y py] kt pt] (.Tuple [a, b] k2 pt2) X.env = pure (some [x, y])) : SS C F X (.Assign [.Tuple [.Name x px, .Name y py] kt pt] (.Tuple [a, b] k2 pt2) pos) (.par [(i, o1), (j, o2)] [ma, mb]) := by
  intro w0 w env σ st D E tk p h
  refine tS_of (ps_par hc hN hi hj hij hx hy pa_tA hw rfl) (par_go (is := [i, j]) hm p rfl h fun vs w1 x1 l1 hnx => ?_)
  match vs, l1 with
  | [v, u], _ => exact ⟨v, u, rfl, hnx w1 (Ext.refl x1.ok) fun _ z => z⟩
theorem ss_par3 {i j l : Nat} {o1 o2 o3 : Bool} {x y z : Str} {px py pz pt : Pos} {kt k2 pt2} (hc : X.calm = true) (hN : X.N.Nodup) (hi : X.N[i]? = some x) (hj : X.N[j]? = some y) (hl : X.N[l]? = some z) (hij : i ≠ j) (hil : i ≠ l) (hjl : j ≠ l)
    (hx : X.env.scope.names.lookup x = some .local) (hy : X.env.scope.names.lookup y = some .local) (hz : X.env.scope.names.lookup z = some .local) (hm : SM C F X [o1, o2, o3] [a, b, c] [ma, mb, mc])
    (hw : swappedStores [.Tuple [.Name x px, .Name y py, .Name z pz] kt pt] (.Tuple [a, b, c] k2 pt2) X.env = pure (some [x, y, z])) : SS C F X (.Assign [.Tuple [.Name x px, .Name y py, .Name z pz] kt pt] (.Tuple [a, b, c] k2 pt2) pos) (.par [(i, o1), (j, o2), (l, o3)] [ma, mb, mc]) := by
  intro w0 w env σ st D E tk p h
  refine tS_of (ps_par3 hc hN hi hj hl hij hil hjl hx hy hz pa_tA hw rfl) (par_go (is := [i, j, l]) hm p rfl h fun vs w1 x1 l1 hnx => ?_)
  match vs, l1 with
  | [v, u, t], _ => exact ⟨v, u, t, rfl, hnx w1 (Ext.refl x1.ok) fun _ z => z⟩
/-- names as targets, one after another -/
structure NameAt (X : Cx) (e : Expr) (i : Nat) : Prop where
  ok : PG X e (gName i)
  pl : plainT e = true
def gNames : List Nat → TGs
  | [] => gNil
  | i :: is => gCons (gName i) (gNames is)
theorem pgs_names : ∀ {ts : List Expr} {is : List Nat}, Paired (NameAt X) ts is → PGs X ts (gNames is)
  | [], [], .nil => pgs_nil
  | t :: ts, i :: is, .cons h r => pgs_cons h.ok (pgs_names r) (by rw [aeach h.pl]; rfl)
theorem gNames_ok : ∀ {is : List Nat} {vs : List V} {σ : Slots} {H : Hp} {Q : Slots → Hp → Prop}, vs.length = is.length → Q (setσ is vs σ) H → gNames is vs σ H Q
  | [], [], σ, H, Q, _, h => ⟨rfl, h⟩
  | i :: is, v :: vs, σ, H, Q, l, h => ⟨v, vs, rfl, gNames_ok (is := is) (vs := vs) (σ := σ.set i (some v)) (by simpa using l) h⟩
  | [], _ :: _, _, _, _, l, _ => by simp at l
  | _ :: _, [], _, _, _, l, _ => by simp at l
theorem ss_parG {ts es : List Expr} {is : List Nat} {os : List Bool} {ms : List E} {kt k2 : Nat} {pt pt2 : Pos} (hc : X.calm = true) (hn : Paired (NameAt X) ts is) (hl : is.length = os.length) (hm : SM C F X os es ms) (hlen : ms.length = ts.length) (hf : fit ms.length = true)
    (hw : swappedStores [.Tuple ts kt pt] (.Tuple es k2 pt2) X.env = pure none) : SS C F X (.Assign [.Tuple ts kt pt] (.Tuple es k2 pt2) pos) (.par (is.zip os) ms) := by
  intro w0 w env σ st D E tk p h
  have hall : ts.all plainT = true := by
    clear hlen hw h hl
    induction hn with
    | nil => rfl
    | cons h r ih => rw [List.all_cons, h.pl, ih]; rfl
  have hil : is.length = ts.length := (Paired.length hn).symm
  refine tS_of (ps_asg (pe_tup pa_tA) (pg_tup (n := ts.length) hc (pgs_names hn) (aeach_len hall _).1 (aeach_len hall _).2) rfl hw rfl) ?_
  refine par_go (D' := D) hm p hl h fun vs w1 x1 l1 hnx => ⟨by rw [l1]; exact fit_le hf, fun q hq => ?_⟩
  refine ⟨q, vs, rfl, SqT.of upd_same, by rw [l1, hlen], gNames_ok (by rw [l1, hlen, hil]) ?_⟩
  exact hnx (w1.add q (.tup vs)) (Ext.add x1.ok hq) fun st1 s1 => s1.add x1.ok hq
end
end Mi

set_option Elab.async false
set_option linter.all false
set_option maxRecDepth 100000
set_option maxHeartbeats 2000000
/-! MiT: calls within an except suite, where the error's class is known. -/
namespace Mi
open PySem PySem.Spec PyProof.Rows L2
structure FnZ (Z : Addr × Obj → Prop) (P : Program) (w : World) (K : PySem.W.Frag) (mg : Str → Option Value) (base : Heap) (CX : CXT) (k : Nat) (f : Addr) (fd : FuncData) (ps : List Str) (sp : Addr × Obj → Sp) : Prop where
  len : ∀ p vs H Q E, sp p vs H Q E → vs.length = ps.length
  run : ∀ (A : Around) (outer : List PySem.Env) (s : Shared) (H : Hp) (args : Args) (us : List Value) (vs : List V) (Q : VK) (E : XK) (p : Addr × Obj), L2H.RoomH k A → Z p → L2H.PinOk outer H s p → Env0 P w K mg base A outer s H → BindsTo s fd args (ps.zip us) → Vals vs us → sp p vs H Q E →
    codeAny (model P w) A (.call (.ref f) args) (L2.CR CX outer P w H s Q E) s
theorem fn_ofZ {Z : Addr × Obj → Prop} {CX : CXT} {P : Program} {w : World} {K : PySem.W.Frag} {mg : Str → Option Value} {base : Heap} {k : Nat} {f : Addr} {name qual : Str} {params : Arguments} {body : List Stmt} {scope : Scope} {dV kV doc pm cdv ct oc : Value} {an od : Option Addr}
    {osl : Array (Option Value)} {N ps : List Str} {sp : Addr × Obj → Sp} (lk : K.lookup f = some ⟨oc, od, .func (PySem.W.fnOf name qual params body scope dV kV doc pm an cdv ct), osl⟩) (hcd : PySem.W.codeIn K cdv qual = true) (S : FnScope N ps scope)
    (len : ∀ p vs H Q E, sp p vs H Q E → vs.length = ps.length)
    (hbody : ∀ (A : Around) (outer : List PySem.Env) (s : Shared) (H : Hp) (vs : List V) (Q : VK) (E : XK) (p : Addr × Obj), Z p → L2H.RoomH k (A.deeper (envOfC qual scope s.heap.objs.size f cdv)) → sp p vs H Q E →
      ∃ t, PSs (L2H.cxH CX P w K mg base N qual scope f cdv A outer s H E p) body t ∧ t { nx := fun _ H' => Q .non H', rt := Q } (L2.start N vs) H) :
    FnZ Z P w K mg base CX (k + 1) f (PySem.W.fnOf name qual params body scope dV kV doc pm an cdv ct) ps sp := by
  refine ⟨len, fun A outer s H args us vs Q E p hr hot hpin e0 hb r hsp => ?_⟩
  have hl := len _ _ _ _ _ hsp
  have KX : K.In s.heap := e0.mod.kin.keeps fun b o e => (e0.bs b o e).1
  have lim : s.heap.NoLimit := e0.mod.nolimit.keeps fun b o e => (e0.bs b o e).1
  have hkind : ∀ y ∈ ps.zip us, scope.names.lookup y.1 = some .local ∨ (scope.names.lookup y.1 = some .cell ∧ ((cellsFrom (s.heap.objs.size + 1) scope.names []).lookup y.1).isSome = true) := fun ⟨n, v⟩ hy => by
    rcases S.par n (List.of_mem_zip hy).1 with q | q
    · exact .inl q
    · exact .inr ⟨q, PySem.W.cellsFrom_some _ _ _ (.inl q)⟩
  refine codeAny_call_function hr.depth (KX _ _ lk) rfl S.co S.gen rfl (PySem.W.codeRec_of KX hcd) (hb _ _ _ _ ?_)
  refine wpAny_newFunctionEnv_cells S.kind hkind fun env he s1 x => ?_
  subst he
  refine ⟨lim.keeps x.toInCall.keep, codeAny_func ?_⟩
  obtain ⟨t, ht, hq⟩ := hbody A outer s H vs Q E p hot (hr.deeper _) hsp
  have I : Inv (L2H.cxH CX P w K mg base N qual scope f cdv A outer s H E p) [] (L2.start N vs) H s1 := L2H.inv_startH S hpin e0 hl r x
  refine wpAny_mono (ht.run [] s1 (L2.start N vs) H _ I hq) (fun fl s' hs => ?_) fun e s' hs => hs
  have fin : ∀ {σ' : L2.St} {H' : Hp} {v : V} {u : Value}, Inv (L2H.cxH CX P w K mg base N qual scope f cdv A outer s H E p) [] σ' H' s' → RelV v u → Q v H' → CE outer P w H s Q u s' :=
    fun {σ' H' v u} J rv q => ⟨v, H', J.os, J.bare, J.base, J.hok, rv, q⟩
  cases fl with
  | ret u =>
    obtain ⟨v, σ', H', J, rv, q⟩ := hs
    exact fin J rv q
  | next =>
    obtain ⟨σ', H', J, q⟩ := hs
    exact fin (v := V.non) (u := Value.none) J rfl q
  | brk =>
    obtain ⟨_, _, _, q⟩ := hs
    exact False.elim q
  | cont =>
    obtain ⟨_, _, _, q⟩ := hs
    exact False.elim q
section
variable {X : Cx} {CX : CXT} {k : Nat} {f C : Addr} {fd : FuncData} {ps : List Str} {Z : Addr × Obj → Prop} {sp : Addr × Obj → Sp} {E : L2.St → XK} {x m : Str} {q pos apos : Pos} {e o : Expr} {es : List Expr} {ta : TE} {t : TA}
theorem run_fnZ {pins : List (Addr × Obj)} {σ : L2.St} {H : Hp} {s : Shared} {Q : VK} {us : List Value} {vs : List V} {p : Addr × Obj} (F : FnZ Z X.prog X.w X.K X.mg X.base CX k f fd ps sp) (hr : L2H.RoomH k X.A) (hz : Z p) (hp : p ∈ X.pn) (hb : Binds X.K fd ps []) (hx : PassesAt CX X σ (E σ))
    (I : Inv X pins σ H s) (r : Vals vs us) (h : sp p vs H Q (E σ)) : wpAny (model X.prog X.w) X.A (call (.ref f) us) (EP X pins σ Q) X.xe s := by
  have hl : us.length = ps.length := by rw [← r.length]; exact F.len _ _ _ _ _ h
  have b := hb s us I.kIn (by rw [List.append_nil]; exact hl)
  rw [List.append_nil] at b
  have P1 := I.pin p (List.mem_append_left _ hp)
  have hpin : L2H.PinOk X.stack H s p := ⟨P1.1, P1.2.1, fun hm => (List.mem_cons.mp (I.stkSub p.1 hm)).elim P1.2.2.1 P1.2.2.2.1, P1.2.2.2.2⟩
  refine wpAny_call (codeAny_mono (F.run X.A X.stack s H ⟨us, []⟩ us vs Q (E σ) p hr hz hpin I.env0 b r h) fun r s' hq => ?_)
  cases r with
  | error e => exact hx pins H s e s' I hq
  | ok fl =>
    cases fl with
    | ret u => exact I.after hq
    | next => exact False.elim hq
    | brk => exact False.elim hq
    | cont => exact False.elim hq
theorem pe_callZ {p : Addr × Obj} (F : FnZ Z X.prog X.w X.K X.mg X.base CX k f fd ps sp) (hr : L2H.RoomH k X.A) (hz : Z p) (hp : p ∈ X.pn) (hg : Gl X x) (hm : X.mg x = some (.ref f)) (hk : PySem.W.keepIn X.K (.ref f) = true) (hb : Binds X.K fd ps []) (hx : ∀ σ, PassesAt CX X σ (E σ))
    (ha : PA X (e :: es) t) (hdb : (x == ("__debug__" : Str)) = false := by decide) (he : starEach (e :: es) X.env = (false, eval e X.env) :: starEach es X.env := by rfl) (hpl : (backTo pos (starEach es X.env)).any (·.1) = false := by rfl) :
    PE X (.Call (.Name x q) (e :: es) [] pos) (tCallS (sp p) E t) := by
  refine ⟨fun pins s σ H Q I h => ?_⟩
  refine wpAny_Call_Name_kw (ld_glob I hg hm ?_ hdb)
  refine PySem.W.callWith_K (h₀ := X.base) I.ok.mod.kin hk (thn (ha.run pos pins s σ H _ I h) fun us s1 ⟨vs, H1, I1, r, q⟩ => ⟨I1.kIn, ?_⟩) he hpl
  exact run_fnZ F hr hz hp hb (hx σ) I1 r q
/-- isinstance of the error that is borne -/
theorem call_isZ {X : Cx} {a D : Addr} {oe : Obj} (C : ExcC X.K D) (hp : (a, oe) ∈ X.pn) (hz : Zc (.ref D) none oe) (hf : ∃ vs, oe.data = .fields vs) : CallR X (.builtin "isinstance") (rIsE X.K D a) := by
  intro pins s σ H xs us Q I r h
  obtain ⟨c, cv, b, rfl, hcv, e, q⟩ := h
  cases r with
  | cons rx rr =>
    cases rr with
    | cons rt rr =>
      cases rr
      cases rx
      have ec := hcv _ rt
      subst ec
      obtain ⟨hget, _⟩ := I.pin (a, oe) (List.mem_append.mpr (.inl hp))
      obtain ⟨vs, hv⟩ := hf
      have J : PySem.W.InstAt s.heap a oe D none := by
        obtain ⟨oc, od, oda, osl⟩ := oe
        obtain ⟨h1, h2⟩ := hz
        dsimp only at h1 h2 hv
        subst h1 h2 hv
        exact ⟨hget, rfl, rfl, trivial⟩
      exact PySem.W.kia_one (PySem.W.handS_kitx_exc C.hg C.hk C.hs C.hd C.ha C.hn C.ht C.hm) I.kIn J e (fun z => nomatch z) fun tk => ⟨.bl b, H, I.kept (t' := tk) fun _ _ z => z, rfl, q⟩
end
end Mi

set_option Elab.async false
set_option linter.all false
set_option maxRecDepth 100000
set_option maxHeartbeats 2000000
/-! MiW: the def that tells which error was caught. -/
namespace Mi
open PySem PySem.Spec PyProof.Rows L2
section
variable {X : Cx}
/-- l.count(True), l of bools -/
def rCntB (K : PySem.W.Frag) : V → List V → Hp → VK → Prop := fun x xs H Q => ∃ (p : Addr) (bs : List Bool), x = .ref p ∧ xs = [.bl true] ∧ SqL K H p (bs.map V.bl) ∧ Q (.int (bs.count true : Nat)) H
theorem countP_bl : ∀ {bs : List Bool} {its : List Value}, Vals (bs.map V.bl) its → its.countP (eqU (.bl true)) = bs.count true
  | [], its, r => by cases r; rfl
  | b :: bs, its, r => by
    cases r with
    | cons rb rr =>
      have := countP_bl rr
      rw [List.countP_cons, this, List.count_cons, eqU_of rb rfl]
      cases b <;> rfl
theorem mt_countB : MtR X "list.count" (rCntB X.K) := by
  intro pins s σ H x xs v us Q I rx rxs h
  obtain ⟨p, bs, rfl, rfl, hs, q⟩ := h
  cases rx
  obtain ⟨u, rfl, ru⟩ := rxs.one
  obtain ⟨its, rv, ⟨⟨cls, dd, data, sl⟩, n, ho, hc, hdn, hd⟩, hlen⟩ := I.list hs
  simp only at hc hd
  subst hc hd
  have fys : (bs.map V.bl).all flatV = true := by
    rw [List.all_eq_true]
    intro x hx
    obtain ⟨b, _, rfl⟩ := List.mem_map.mp hx
    rfl
  refine call_meets PySem.F.slot_list_count ⟨_, ho, rfl⟩ PySem.F.entry_list_count (PySem.F.args_list_count_2 _ _)
    (SeqAt.list_countAt p its.toArray n dd sl u (eqU (.bl true))) ⟨ho, fun u' hu' => mem_eqAt ru rfl rv fys u' (by simpa using hu'), ?_⟩
  refine ⟨.int (bs.count true : Nat), H, I.tok _, ⟨s.toks, ?_⟩, q⟩
  show Value.int ((its.toArray.toList.countP (eqU (.bl true)) : Nat) : Int) s.toks = Value.int ((bs.count true : Nat) : Int) s.toks
  rw [show its.toArray.toList = its by simp, countP_bl rv]
/-- isinstance(e, x), e the error that is borne -/
def tIs (a : Addr) (b : Bool) : TE := fun σ H Q => σ[0]? = some (some (.ref a)) ∧ Q (.bl b) H
theorem pe_isG {a D : Addr} {oe : Obj} {x : Str} {c : V} {cv : Value} {b : Bool} {p1 p2 p3 pos : Pos} (ec : ExcC X.K D) (hp : (a, oe) ∈ X.pn) (hz : Zc (.ref D) none oe) (hf : ∃ vs, oe.data = .fields vs) (h0 : X.N[0]? = some ("e" : Str)) (hv : Vis X.env.scope ("e" : Str)) (hgI : Gl X "isinstance") (hmI : X.mg "isinstance" = none)
    (hc : PE X (.Name x p3) (tC c)) (hu : ∀ u, RelV c u → u = cv) (hk : PySem.W.kitOne X.K (.ref D) cv = some b) : PE X (.Call (.Name "isinstance" p1) [.Name "e" p2, .Name x p3] [] pos) (tIs a b) := by
  refine ⟨fun pins s σ H Q I h => ?_⟩
  refine (pe_callB (call_isZ ec hp hz hf) hgI hmI (by decide +kernel) (pa_cons (pe_var h0 hv (by decide) (by decide)) (pa_cons hc pa_nil))).run pins s σ H Q I ?_
  exact ⟨.ref a, h.1, c, cv, b, rfl, hu, hk, h.2⟩
def tIss (a : Addr) (bs : List Bool) : TA := fun σ H Q => σ[0]? = some (some (.ref a)) ∧ Q (bs.map V.bl) H
end
def isE (x : Str) (e : Expr) : Bool := match e with
  | .Call (.Name f _) [.Name a _, .Name b _] [] _ => f == ("isinstance" : Str) && a == ("e" : Str) && b == x
  | _ => false
def isEs : List Str → List Expr → Bool
  | [], [] => true
  | x :: xs, e :: es => isE x e && isEs xs es
  | _, _ => false
def isOwnM (e : Expr) (name : Str) : Bool := match e with
  | .Call (.Attribute (.Name o _) a apos) [.Constant (.bool b) _ _] [] cpos => o == ("own" : Str) && a == name && b && apos.endLine == cpos.line
  | _ => false
def whS1 (xs : List Str) (s : Stmt) : Bool := match s with
  | .Assign [.Name o _] (.List l _) _ => o == ("own" : Str) && isEs xs l
  | _ => false
def whS2 (xs : List Str) (s : Stmt) : Bool := match s with
  | .Expr (.Call (.Attribute (.Name o _) a apos) [.List l _] [] cpos) _ => o == ("own" : Str) && a == ("extend" : Str) && apos.endLine == cpos.line && isEs xs l
  | _ => false
def whS3 (x : Str) (s : Stmt) : Bool := match s with
  | .Expr (.Call (.Attribute (.Name o _) a apos) [e] [] cpos) _ => o == ("own" : Str) && a == ("append" : Str) && apos.endLine == cpos.line && isE x e
  | _ => false
def whS4 (s : Stmt) : Bool := match s with
  | .If (.BoolOp .Or [.Compare c [.NotEq] [.Constant (.int i) _ _] _, .UnaryOp .Not e _] _) _ [] _ => isOwnM c "count" && i == 1 && isE "ValueError" e
  | _ => false
def whS5 (s : Stmt) : Bool := match s with
  | .Return (some (.Tuple [.Constant (.str r) _ _, c] _ _)) _ => r == ("refused" : Str) && isOwnM c "index"
  | _ => false
def whB (b : List Stmt) : Bool := match b with
  | [s1, s2, s3, s4, s5, s6] => whS1 ["NoGame", "NoPlan", "NoThing", "TooMany"] s1 && whS2 ["NoState", "NoLate", "NoStretch", "NoBeats"] s2 && whS2 ["NoText", "NoCuts", "Done", "Nothing"] s3 && whS3 "NoRow" s4 && whS4 s5 && whS5 s6
  | _ => false
def errNames : List Str := ["NoGame", "NoPlan", "NoThing", "TooMany", "NoState", "NoLate", "NoStretch", "NoBeats", "NoText", "NoCuts", "Done", "Nothing", "NoRow"]
end Mi

set_option Elab.async false
set_option linter.all false
set_option maxRecDepth 100000
set_option maxHeartbeats 2000000
namespace Mi
open PySem PySem.Spec PyProof.Rows L2
/-- the facts of the error classes -/
structure WhK (K : PySem.W.Frag) (xa : Nat → Addr) : Prop where
  ec : ∀ k, k < 13 → ExcC K (xa k)
  is : ∀ k j, k < 13 → j < 13 → PySem.W.kitOne K (.ref (xa k)) (.ref (xa j)) = some (Nat.beq k j)
  ve : ∀ k, k < 13 → PySem.W.kitOne K (.ref (xa k)) (.type "ValueError") = some true
/-- the context of the def's body -/
structure WhX (X : Cx) (xa : Nat → Addr) (k : Nat) (a : Addr) (oe : Obj) : Prop where
  wk : WhK X.K xa
  k13 : k < 13
  pn : (a, oe) ∈ X.pn
  hz : Zc (.ref (xa k)) none oe
  hf : ∃ vs, oe.data = .fields vs
  N : X.N = [("e" : Str), ("own" : Str)]
  ve : Vis X.env.scope ("e" : Str)
  vo : Vis X.env.scope ("own" : Str)
  lo : Loc X.env.scope ("own" : Str)
  fo : X.fn "own" = true
  gI : Gl X "isinstance"
  mI : X.mg "isinstance" = none
  gV : Gl X "ValueError"
  mV : X.mg "ValueError" = none
  gx : ∀ (j : Nat) (x : Str), errNames[j]? = some x → Gl X x ∧ X.mg x = some (.ref (xa j))
section
variable {X : Cx} {xa : Nat → Addr} {k : Nat} {a : Addr} {oe : Obj}
theorem isE_form {x : Str} {e : Expr} (h : isE x e = true) : ∃ p1 p2 p3 pos, e = .Call (.Name "isinstance" p1) [.Name "e" p2, .Name x p3] [] pos := by
  unfold isE at h
  split at h <;> (try contradiction)
  simp only [Bool.and_eq_true, beq_iff_eq] at h
  obtain ⟨⟨rfl, rfl⟩, rfl⟩ := h
  exact ⟨_, _, _, _, rfl⟩
theorem errN_ok {j : Nat} {x : Str} (h : errNames[j]? = some x) : j < 13 ∧ (x == ("__debug__" : Str)) = false := by
  have hj : j < errNames.length := (List.getElem?_eq_some_iff.mp h).1
  have hj : j < 13 := hj
  refine ⟨hj, ?_⟩
  match j, hj with
  | 0, _ => cases h; decide
  | 1, _ => cases h; decide
  | 2, _ => cases h; decide
  | 3, _ => cases h; decide
  | 4, _ => cases h; decide
  | 5, _ => cases h; decide
  | 6, _ => cases h; decide
  | 7, _ => cases h; decide
  | 8, _ => cases h; decide
  | 9, _ => cases h; decide
  | 10, _ => cases h; decide
  | 11, _ => cases h; decide
  | 12, _ => cases h; decide
theorem pe_isN (o : WhX X xa k a oe) {j : Nat} {x : Str} {e : Expr} (hj : errNames[j]? = some x) (h : isE x e = true) : PE X e (tIs a (Nat.beq k j)) := by
  obtain ⟨p1, p2, p3, pos, rfl⟩ := isE_form h
  obtain ⟨hj13, hdb⟩ := errN_ok hj
  obtain ⟨g, m⟩ := o.gx j x hj
  exact pe_isG (c := .ref (xa j)) (o.wk.ec k o.k13) o.pn o.hz o.hf (by rw [o.N]; rfl) o.ve o.gI o.mI (pe_glob g m rfl hdb) (fun u r => by cases r; rfl) (o.wk.is k j o.k13 hj13)
theorem isE_plain {x : Str} {e : Expr} (h : isE x e = true) : plainE e = true := by
  obtain ⟨p1, p2, p3, pos, rfl⟩ := isE_form h
  rfl
theorem pa_isN (o : WhX X xa k a oe) : ∀ (xs : List Str) (es : List Expr) (j : Nat), (∀ i x, xs[i]? = some x → errNames[j + i]? = some x) → isEs xs es = true → PA X es (tIss a ((List.range' j xs.length).map fun i => Nat.beq k i))
  | [], [], j, _, _ => ⟨fun pos pins s σ H Q I h => pa_nil.run pos pins s σ H Q I h.2⟩
  | x :: xs, e :: es, j, hx, h => by
    unfold isEs at h
    obtain ⟨h1, h2⟩ := Bool.and_eq_true_iff.mp h
    have p1 := pe_isN o (hx 0 x rfl) h1
    have p2 := pa_isN o xs es (j + 1) (fun i y hy => by rw [show j + 1 + i = j + (i + 1) by omega]; exact hx (i + 1) y hy) h2
    refine ⟨fun pos pins s σ H Q I h => (pa_cons p1 p2 (star_ok (isE_plain h1) _ _)).run pos pins s σ H Q I ?_⟩
    exact ⟨h.1, h.1, h.2⟩
  | [], _ :: _, _, _, h => by cases h
  | _ :: _, [], _, _, h => by cases h
theorem isOwnM_form {e : Expr} {name : Str} (h : isOwnM e name = true) : ∃ p1 apos j p2 cpos, e = .Call (.Attribute (.Name "own" p1) name apos) [.Constant (.bool true) j p2] [] cpos ∧ (apos.endLine == cpos.line) = true := by
  unfold isOwnM at h
  split at h <;> (try contradiction)
  rename_i o p1 a apos b j p2 cpos
  simp only [Bool.and_eq_true] at h
  obtain ⟨⟨⟨h1, h2⟩, h3⟩, h4⟩ := h
  have e1 := eq_of_beq h1
  have e2 := eq_of_beq h2
  subst e1 e2 h3
  exact ⟨_, _, _, _, _, rfl, h4⟩
/-- the bools that are told -/
def whL (k n : Nat) : List Bool := (List.range' 0 n).map fun i => Nat.beq k i
theorem whL_app (k n m : Nat) : whL k n ++ (List.range' n m).map (fun i => Nat.beq k i) = whL k (n + m) := by
  unfold whL
  rw [← List.map_append, show List.range' n m = List.range' (0 + n) m by rw [Nat.zero_add], List.range'_append_1]
theorem whL_count : ∀ k, k < 13 → (whL k 13).count true = 1 := by decide +kernel
theorem whL_at : ∀ k, k < 13 → (whL k 13)[k]? = some true ∧ ∀ m, m < k → (whL k 13)[m]? = some false := by decide +kernel
theorem own_index (o : WhX X xa k a oe) {e : Expr} (h : isOwnM e "index" = true) : PE X e (fun σ H Q => ∃ l, σ[1]? = some (some (.ref l)) ∧ H l = some (.lst ((whL k 13).map V.bl)) ∧ Q (.int k) H) := by
  obtain ⟨p1, apos, j, p2, cpos, rfl, hl⟩ := isOwnM_form h
  refine ⟨fun pins s σ H Q I q => ?_⟩
  obtain ⟨l, h1, h2, q⟩ := q
  obtain ⟨w1, w2⟩ := whL_at k o.k13
  refine (pe_bm PySem.F.plainAttrs_list PySem.F.slot_list_index PySem.F.type_list_index mt_index (pe_var (i := 1) (by rw [o.N]; rfl) o.vo (by decide) (by decide)) (pa_cons pe_bl pa_nil) rfl rfl hl).run pins s σ H Q I ?_
  refine ⟨_, h1, .inl ⟨rfl, _, SqL.of h2⟩, l, _, .bl true, k, .bl true, rfl, rfl, SqL.of h2, rfl, ?_, ?_, rfl, fun m z hm hz => ?_, q⟩
  · rw [List.all_eq_true]
    intro x hx
    obtain ⟨b, _, rfl⟩ := List.mem_map.mp hx
    rfl
  · rw [List.getElem?_map, w1]; rfl
  · rw [List.getElem?_map, w2 m hm] at hz
    cases hz; rfl
theorem own_count (o : WhX X xa k a oe) {e : Expr} (h : isOwnM e "count" = true) : PE X e (fun σ H Q => ∃ l, σ[1]? = some (some (.ref l)) ∧ H l = some (.lst ((whL k 13).map V.bl)) ∧ Q (.int 1) H) := by
  obtain ⟨p1, apos, j, p2, cpos, rfl, hl⟩ := isOwnM_form h
  refine ⟨fun pins s σ H Q I q => ?_⟩
  obtain ⟨l, h1, h2, q⟩ := q
  refine (pe_bm PySem.F.plainAttrs_list PySem.F.slot_list_count PySem.F.type_list_count mt_countB (pe_var (i := 1) (by rw [o.N]; rfl) o.vo (by decide) (by decide)) (pa_cons pe_bl pa_nil) rfl rfl hl).run pins s σ H Q I ?_
  refine ⟨_, h1, .inl ⟨rfl, _, SqL.of h2⟩, l, whL k 13, rfl, rfl, SqL.of h2, ?_⟩
  rw [whL_count k o.k13]
  exact q
theorem wh_grow (o : WhX X xa k a oe) {s : Stmt} {xs : List Str} {j : Nat} (hx : ∀ i x, xs[i]? = some x → errNames[j + i]? = some x) (h : whS2 xs s = true) (hn : j + xs.length ≤ 13) : PS X s (fun D σ H => ∃ l, σ[0]? = some (some (.ref a)) ∧ σ[1]? = some (some (.ref l)) ∧ H l = some (.lst ((whL k j).map V.bl)) ∧ ∀ p, H p = none → D.nx σ (upd (upd H p (.lst (((List.range' j xs.length).map fun i => Nat.beq k i).map V.bl))) l (.lst ((whL k (j + xs.length)).map V.bl)))) := by
  unfold whS2 at h
  split at h <;> (try contradiction)
  rename_i oo p1 at_ apos l lp cpos pos
  simp only [Bool.and_eq_true] at h
  obtain ⟨⟨⟨h1, h2⟩, h3⟩, h4⟩ := h
  have e1 := eq_of_beq h1
  have e2 := eq_of_beq h2
  subst e1 e2
  refine ⟨fun pins s σ H D I q => ?_⟩
  obtain ⟨w, q0, q1, q2, q⟩ := q
  refine (ps_expr (pe_bm PySem.F.plainAttrs_list PySem.F.slot_list_extend PySem.F.type_list_extend mt_extend (pe_var (i := 1) (by rw [o.N]; rfl) o.vo (by decide) (by decide)) (pa_cons (pe_lst (pa_isN o xs l j hx h4)) pa_nil) rfl rfl h3)).run pins s σ H D I ?_
  refine ⟨_, q1, .inl ⟨rfl, _, SqL.of q2⟩, q0, ?_, fun p hp => ?_⟩
  · have := sizeLine_eq
    simp
    omega
  · have nw : w ≠ p := fun z => by rw [z, hp] at q2; cases q2
    refine ⟨w, p, _, _, rfl, rfl, by rw [upd_ne nw]; exact q2, upd_same, ?_, ?_⟩
    · have := sizeLine_eq
      simp [whL]
      omega
    · rw [← List.map_append, whL_app]
      exact q p hp
theorem which_end (o : WhX X xa k a oe) {s4 s5 s6 : Stmt} (b4 : whS3 "NoRow" s4 = true) (b5 : whS4 s5 = true) (b6 : whS5 s6 = true) : PSs X [s4, s5, s6] (fun D σ H => ∃ w, σ = [some (.ref a), some (.ref w)] ∧ H w = some (.lst ((whL k 12).map V.bl)) ∧ ∀ (q : Addr) (H' : Hp), (∀ b u, H b = some u → b ≠ w → H' b = some u) → H q = none → H' q = some (.tup [.str "refused", .int k]) → D.rt (.ref q) H') := by
  unfold whS3 at b4
  split at b4 <;> (try contradiction)
  rename_i oo p4n at_ apos e4 cpos pos4
  simp only [Bool.and_eq_true] at b4
  obtain ⟨⟨⟨d1, d2⟩, d3⟩, d4⟩ := b4
  have e1 := eq_of_beq d1
  have e2 := eq_of_beq d2
  subst e1 e2
  have hp4 := isE_plain d4
  have p4 := ps_expr (X := X) (pos := pos4) (pe_bm PySem.F.plainAttrs_list PySem.F.slot_list_append PySem.F.type_list_append mt_append (pe_var (pos := p4n) (i := 1) (by rw [o.N]; rfl) o.vo (by decide) (by decide)) (pa_cons (pe_isN o (j := 12) rfl d4) pa_nil (star_ok hp4 _ _)) rfl (by rw [star_ok hp4]; rfl) d3 (star_ok hp4 _ _) (by rfl)) (by rfl)
  unfold whS4 at b5
  split at b5 <;> (try contradiction)
  rename_i c5 i5 j5 q5 r5 e5 u5 v5 a5 pos5
  simp only [Bool.and_eq_true] at b5
  obtain ⟨⟨f1, f2⟩, f3⟩ := b5
  have f2 := eq_of_beq f2
  subst f2
  obtain ⟨g1, g2, g3, g4, rfl⟩ := isE_form f3
  have t1 : PT X (.Compare c5 [.NotEq] [.Constant (.int 1) j5 q5] r5) _ := pt_cmp (pc_neI (own_count o f1) pe_int)
  have t2 : PT X (.Call (.Name "isinstance" g1) [.Name "e" g2, .Name "ValueError" g3] [] g4) _ := pt_val (pe_isG (c := .ty "ValueError") (o.wk.ec k o.k13) o.pn o.hz o.hf (by rw [o.N]; rfl) o.ve o.gI o.mI (pe_bltn o.gV o.mV (by decide +kernel) rfl (by decide) (by decide)) (fun u r => by cases r; rfl) (o.wk.ve k o.k13))
  have t3 := pt_not (pos := u5) t2
  have t4 := (pw_or (pos := v5) (rest := []) t1 (pw_or1 t3)).pt
  have p5 := ps_if (X := X) (pos := pos5) t4 (pss_tSs (s := a5)) pss_nil
  unfold whS5 at b6
  split at b6 <;> (try contradiction)
  rename_i r6 j6 q6 c6 k6 t6 pos6
  simp only [Bool.and_eq_true] at b6
  obtain ⟨k1, k2⟩ := b6
  have e1 := eq_of_beq k1
  subst e1
  have p6 := ps_ret (X := X) (pos := pos6) (pe_tup (x1 := k6) (pos := t6) (pa_cons (pe_str (x := "refused") (j := j6) (pos := q6)) (pa_cons (own_index o k2) pa_nil (by
    obtain ⟨_, _, _, _, _, rfl, _⟩ := isOwnM_form k2
    rfl))))
  refine ⟨fun pins s σ H D I q => (pss_cons p4 (pss_cons p5 (pss_cons p6 pss_nil))).run pins s σ H D I ?_⟩
  obtain ⟨w, rfl, hw, q⟩ := q
  have hs := sizeLine_eq
  refine ⟨.ref w, rfl, .inl ⟨rfl, _, SqL.of hw⟩, rfl, w, (whL k 12).map V.bl, .bl (Nat.beq k 12), rfl, rfl, hw, by simp [whL]; omega, ?_⟩
  have e13 : (whL k 12).map V.bl ++ [V.bl (Nat.beq k 12)] = (whL k 13).map V.bl := by
    rw [← whL_app k 12 1, List.map_append]; rfl
  rw [e13]
  refine ⟨w, rfl, upd_same, 1, 1, rfl, rfl, false, rfl, ?_⟩
  show (if false = true then _ else _)
  rw [if_neg Bool.false_ne_true]
  refine ⟨rfl, true, rfl, ?_⟩
  show (if (!true) = true then _ else _)
  rw [show (!true) = false from rfl, if_neg Bool.false_ne_true]
  refine ⟨w, rfl, upd_same, by simp; omega, fun q5 hq5 => ?_⟩
  have n5 : q5 ≠ w := fun z => by rw [z, upd_same] at hq5; cases hq5
  refine q q5 _ (fun b u hb nb => ?_) (by rw [upd_ne n5] at hq5; exact hq5) upd_same
  have n6 : b ≠ q5 := fun z => by rw [z] at hb; rw [upd_ne n5, hb] at hq5; cases hq5
  rw [upd_ne n6, upd_ne nb]; exact hb
theorem which_ok (o : WhX X xa k a oe) {body : List Stmt} (hb : whB body = true) {H : Hp} {D : Ends} (hq : ∀ (q : Addr) (H' : Hp), (∀ b u, H b = some u → H' b = some u) → H q = none → H' q = some (.tup [.str "refused", .int k]) → D.rt (.ref q) H') : ∃ t, PSs X body t ∧ t D [some (.ref a), none] H := by
  unfold whB at hb
  split at hb <;> (try contradiction)
  rename_i s1 s2 s3 s4 s5 s6
  simp only [Bool.and_eq_true] at hb
  obtain ⟨⟨⟨⟨⟨b1, b2⟩, b3⟩, b4⟩, b5⟩, b6⟩ := hb
  unfold whS1 at b1
  split at b1 <;> (try contradiction)
  rename_i oo po l lp pos
  simp only [Bool.and_eq_true] at b1
  obtain ⟨c1, c2⟩ := b1
  have e1 := eq_of_beq c1
  subst e1
  have p1 := ps_asg (X := X) (pos := pos) (pe_lst (pos := lp) (pa_isN o _ l 0 (fun i x hx => by rw [Nat.zero_add]; exact (by
    match i, hx with
    | 0, hx => cases hx; rfl
    | 1, hx => cases hx; rfl
    | 2, hx => cases hx; rfl
    | 3, hx => cases hx; rfl)) c2)) (pg_name (pos := po) (i := 1) (x := "own") (by rw [o.N]; decide) (by rw [o.N]; rfl) o.lo (.inl o.fo))
  have p2 := wh_grow o (j := 4) (fun i x hx => by
    match i, hx with
    | 0, hx => cases hx; rfl
    | 1, hx => cases hx; rfl
    | 2, hx => cases hx; rfl
    | 3, hx => cases hx; rfl) b2 (by decide)
  have p3 := wh_grow o (j := 8) (fun i x hx => by
    match i, hx with
    | 0, hx => cases hx; rfl
    | 1, hx => cases hx; rfl
    | 2, hx => cases hx; rfl
    | 3, hx => cases hx; rfl) b3 (by decide)
  refine ⟨_, pss_cons p1 (pss_cons p2 (pss_cons p3 (which_end o b4 b5 b6))), ?_⟩
  have hs := sizeLine_eq
  refine ⟨rfl, by simp; omega, fun w hw => ⟨w, rfl, rfl, upd_same, fun x1 hx1 => ⟨w, rfl, rfl, upd_same, fun x2 hx2 => ⟨w, rfl, upd_same, fun q H' k3 hq3 hq4 => ?_⟩⟩⟩⟩
  have n1 : w ≠ x1 := fun z => by rw [z, upd_same] at hx1; cases hx1
  have n2 : w ≠ x2 := fun z => by rw [z, upd_same] at hx2; cases hx2
  have hx1' : H x1 = none := by rw [upd_ne n1.symm] at hx1; exact hx1
  have hx2' : H x2 = none := by
    rw [upd_ne n2.symm] at hx2
    by_cases q : x2 = x1
    · rw [q]; exact hx1'
    · rw [upd_ne q, upd_ne n2.symm] at hx2; exact hx2
  have old : ∀ b u, H b = some u → b ≠ w ∧ b ≠ x1 ∧ b ≠ x2 := fun b u hb => ⟨fun z => (by rw [z, hw] at hb; cases hb), fun z => (by rw [z, hx1'] at hb; cases hb), fun z => (by rw [z, hx2'] at hb; cases hb)⟩
  refine hq q H' (fun b u hb => ?_) ?_ hq4
  · obtain ⟨a1, a2, a3⟩ := old b u hb
    exact k3 b u (by rw [upd_ne a1, upd_ne a3, upd_ne a1, upd_ne a2, upd_ne a1]; exact hb) a1
  · cases q5 : H q with
    | none => rfl
    | some u =>
      obtain ⟨a1, a2, a3⟩ := old q u q5
      rw [upd_ne a1, upd_ne a3, upd_ne a1, upd_ne a2, upd_ne a1, q5] at hq3
      cases hq3
end
end Mi

set_option Elab.async false
set_option linter.all false
set_option maxRecDepth 100000
set_option maxHeartbeats 2000000
/-! Mi9d: try .. except AskError as e: return _law_which(e); calls of a def that an expression tells. -/
namespace Mi
open PySem PySem.Spec PyProof.Rows L2
/-- what the def that tells the error's number promises -/
def spW (k : Nat) : Addr × Obj → Sp := fun p vs H Q _ => vs = [.ref p.1] ∧ ∀ (q : Addr) (H' : Hp), (∀ b u, H b = some u → H' b = some u) → H q = none → H' q = some (.tup [.str "refused", .int k]) → Q (.ref q) H'
def ZW (xa : Nat → Addr) (k : Nat) (p : Addr × Obj) : Prop := Zc (.ref (xa k)) none p.2 ∧ ∃ vs, p.2.data = .fields vs
structure WhAt (C : Ct) (X : Cx) : Prop where
  st : X.stack = X.env :: X.outer
  fr : X.env.frame = some X.env.locals
  ask : ∃ c : Addr, X.mg "AskError" = some (.ref c) ∧ ∀ k, k < 13 → PySem.W.exmOne X.K (.ref (C.xa k)) (.ref c) = some true
  fn : ∃ (f : Addr) (fd : FuncData), X.mg "_law_which" = some (.ref f) ∧ PySem.W.keepIn X.K (.ref f) = true ∧ Binds X.K fd [("e" : Str)] [] ∧ ∀ k, k < 13 → FnZ (ZW C.xa k) X.prog X.w X.K X.mg X.base (L2.CX X.prog X.w) 1 f fd [("e" : Str)] (spW k)
  rm : L2H.RoomH 1 X.A
section
variable {C : Ct} {F : Fns} {X : Cx}
theorem takes_all {W : WX} {N : Nat} (hN : X.N.length = N) (t : Takes X W) : Takes X (fun cls d _ H => ∀ σ : Slots, σ.length = N → W cls d σ H) := fun u s' ⟨a, B, sI, pins, σ, H, cls, d, e, I, nb, up, sky, na, os, ag, w⟩ =>
  t u s' ⟨a, B, sI, pins, σ, H, cls, d, e, I, nb, up, sky, na, os, ag, w σ (I.len.trans hN)⟩
theorem ext_told {w : Wd} {q : Addr} {o : HO} {H' : Hp} (ok : Wok w) (hH : ∀ b u, w.H b = some u → H' b = some u) (hq : w.H q = none) (hq2 : H' q = some o) : Ext w ⟨upd w.S q o, H', w.φ⟩ := by
  have nq : ∀ a u, w.S a = some u → a ≠ q := fun a u e z => by rw [z] at e; rw [ok.sub q u e] at hq; cases hq
  refine ⟨⟨fun a u e => ?_, ok.nd, fun a ha => ?_, fun a ha => ?_⟩, fun a u e => ?_, fun a u e => ?_, fun a u e _ => hH a u e, List.prefix_refl _, fun a ha => .inl ha⟩
  · have e : upd w.S q o a = some u := e
    by_cases z : a = q
    · rw [z, upd_same] at e; cases e; rw [z]; exact hq2
    · rw [upd_ne z] at e; exact hH a u (ok.sub a u e)
  · have z : a ≠ q := fun z => ok.there a ha (by rw [z]; exact hq)
    show upd w.S q o a = none
    rw [upd_ne z]; exact ok.out a ha
  · show H' a ≠ none
    cases e : w.H a with
    | none => exact absurd e (ok.there a ha)
    | some u => rw [hH a u e]; simp
  · show upd w.S q o a = some u
    rw [upd_ne (nq a u e)]; exact e
  · have e : upd w.S q o a = some u := e
    by_cases z : a = q
    · rw [z]; exact .inr hq
    · rw [upd_ne z] at e; exact .inl e
/-- the suite -/
theorem pss_which {i k : Nat} {a : Addr} {oe : Obj} {pn : List (Addr × Obj)} {n : Str} {p1 p2 cpos rpos : Pos} (o : WhAt C X) (hk : k < 13) (hz : Zc (.ref (C.xa k)) none oe) (hf : ∃ vs, oe.data = .fields vs) (hgw : Gl X "_law_which") (hi : X.N[i]? = some n) (hv : Vis X.env.scope n) (hdb : (n == ("__debug__" : Str)) = false) (hcd : (n == ("__classdict__" : Str)) = false) :
    PSs (X.suite a ((a, oe) :: pn)) [.Return (some (.Call (.Name "_law_which" p1) [.Name n p2] [] cpos)) rpos] (fun D σ H => σ[i]? = some (some (.ref a)) ∧ ∀ (q : Addr) (H' : Hp), (∀ b u, H b = some u → H' b = some u) → H q = none → H' q = some (.tup [.str "refused", .int k]) → D.rt (.ref q) H') := by
  obtain ⟨f, fd, m1, m2, m3, m4⟩ := o.fn
  have hx : ∀ σ, PassesAt (L2.CX X.prog X.w) (X.suite a ((a, oe) :: pn)) σ ((fun _ _ _ _ => False : Slots → XK) σ) := fun σ pins H s e s' I z => by
    obtain ⟨_, _, _, _, _, _, _, _, _, _, _, _, z⟩ := z
    exact z.elim
  refine ⟨fun pins s σ H D I q => ?_⟩
  refine (pss_cons (ps_ret (X := X.suite a ((a, oe) :: pn)) (pos := rpos) (pe_callZ (X := X.suite a ((a, oe) :: pn)) (Z := ZW C.xa k) (p := (a, oe)) (E := fun _ _ _ _ => False) (m4 k hk) ⟨o.rm.dp, o.rm.un⟩ ⟨hz, hf⟩ List.mem_cons_self hgw m1 m2 m3 hx (pa_cons (pe_var (pos := p2) hi hv hdb hcd) pa_nil))) pss_nil).run pins s σ H D I ?_
  exact ⟨.ref a, q.1, rfl, q.2⟩
def tryB (X : Cx) (body : List Stmt) (W : WX) : TS := fun D σ H => ∀ (pn : List (Addr × Obj)) (xe : Value → Shared → Prop), Takes (X.tr pn xe) W → PassesOwn (model X.prog X.w) X.A X.env xe → tSs (X.tr pn xe) body D σ H
theorem ss_try {i : Nat} {n : Str} {body : List Stmt} {ms : List S} {np p1 p2 cpos rpos hpos pos : Pos} (o : WhAt C X) (hK : X.K = C.K) (hN : X.N.Nodup) (hi : X.N[i]? = some n) (hln : X.env.kindOf n = some .local) (hga : Gl X "AskError") (hgw : Gl X "_law_which") (hdb : (n == ("__debug__" : Str)) = false) (hcd : (n == ("__classdict__" : Str)) = false)
    (hb : ∀ (pn : List (Addr × Obj)) (xe : Value → Shared → Prop), PassesOwn (model X.prog X.w) X.A X.env xe → SL C F (X.tr pn xe) body ms) :
    SS C F X (.Try body [.ExceptHandler (some (.Name "AskError" np)) (some n) [.Return (some (.Call (.Name "_law_which" p1) [.Name n p2] [] cpos)) rpos] hpos] [] [] pos) (.tryw i ms) := by
  intro w0 w env σ st D E tk p h
  obtain ⟨ca, a1, a2⟩ := o.ask
  have hvn : Vis X.env.scope n := .inl hln
  refine tS_of (L2H.ps_try_asH (ts := fun a cls d => fun D σ H => ∃ k, k < 13 ∧ cls = .ref (C.xa k) ∧ d = none ∧ σ[i]? = some (some (.ref a)) ∧ ∀ (q : Addr) (H' : Hp), (∀ b u, H b = some u → H' b = some u) → H q = none → H' q = some (.tup [.str "refused", .int k]) → D.rt (.ref q) H') (Wout := fun _ _ _ _ => False) (tb := tryB X body) o.st o.fr hN hi hln ⟨hga, by decide, .inl a1⟩ (fun u s' z => by
      obtain ⟨_, _, _, _, _, _, _, _, _, _, _, _, _, _, _, _, z⟩ := z
      exact z.elim) (fun W pn xe hpn tk po => ⟨fun pins sh σ H D I q => q pn xe tk po pins sh I⟩) (fun a oe cls d pn hz hf => ?_)) ?_
  · refine ⟨fun pins sh σ H D I q => ?_⟩
    obtain ⟨k, hk, rfl, rfl, q1, q2⟩ := q
    exact (pss_which o hk hz hf hgw hi hvn hdb hcd).run pins sh σ H D I ⟨q1, q2⟩
  · intro pn xe tk po
    have hlen : X.N.length = X.N.length := rfl
    have tk2 : Takes (X.tr pn xe) (fun cls d _ H => ∀ σ : Slots, σ.length = X.N.length → _) := takes_all (X := X.tr pn xe) (N := X.N.length) rfl tk
    refine hb pn xe po w0 w env σ st D _ tk2 p ?_
    unfold ex at h
    cases e : exs F ms env st with
    | next env' st' => rw [e] at h; exact h
    | ret d st' => rw [e] at h; exact h
    | bad => rw [e] at h; exact h
    | err c st' =>
      rw [e] at h
      have h : SEnds C w0 w D E (if Nat.blt c 13 = true then .ret (.tup [.str [114, 101, 102, 117, 115, 101, 100], .int c]) st' else .bad) := h
      by_cases hc : Nat.blt c 13 = true
      case neg => rw [if_neg hc] at h; exact h.elim
      rw [if_pos hc] at h
      have hc : c < 13 := Nat.le_of_ble_eq_true hc
      intro w' x' s' σ' hσ
      refine ⟨true, a2 c hc, fun _ a ha => ⟨c, hc, rfl, rfl, ?_, fun q H' hH hq hq2 => ?_⟩, fun z => by cases z⟩
      · have hi' : i < σ'.length := by rw [hσ]; exact (List.getElem?_eq_some_iff.mp hi).1
        rw [List.getElem?_set_self hi']
      · have h : ∀ v w', Ext w0 w' → StR C w' st' → RV C w' v (.tup [.str [114, 101, 102, 117, 115, 101, 100], .int c]) → D.rt v w'.H := h
        have x'' := ext_told x'.ok (o := .tup [.str "refused", .int c]) hH hq hq2
        exact h (.ref q) ⟨upd w'.S q (.tup [.str "refused", .int c]), H', w'.φ⟩ (x'.trans x'') (s'.ext x'' rfl fun b hb => by
          cases z : w'.H b with
          | none => exact absurd z (x'.ok.there b hb)
          | some u => exact hH b u z) (.tup (SqT.of upd_same) (.cons (.str "refused") (.cons (.int _) .nil)))
/-! ### calls of a def that an expression tells -/
def tCallD (X : Cx) (CX : CXT) (E : XK) (tf : TE) (t : TA) : TE := fun σ H Q => tf σ H fun v H1 => ∃ (f : Addr) (k : Nat) (fd : FuncData) (ps : List Str) (sp : Sp), v = .ref f ∧ Room k X.A ∧ PySem.W.keepIn X.K (.ref f) = true ∧ Binds X.K fd ps [] ∧ FnOk X.prog X.w X.K X.mg X.base CX k f fd ps sp ∧ t σ H1 fun vs H2 => sp vs H2 Q E
theorem arm_Call_Sub (a b : Expr) (p : Pos) (args : List Expr) (keywords : List Keyword) (pos : Pos) (env : PySem.Env) : eval (.Call (.Subscript a b p) args keywords pos) env = (do
    callWith pos (← eval (.Subscript a b p) env) [] (backTo pos (starEach args env)) (backToKw pos (keywordEach keywords env))) := rfl
theorem pe_callD {CX : CXT} {E : XK} {a b e : Expr} {es : List Expr} {p pos : Pos} {tf : TE} {t : TA} (hx : Passes CX X E) (hf : PE X (.Subscript a b p) tf) (ha : PA X (e :: es) t) (he : starEach (e :: es) X.env = (false, eval e X.env) :: starEach es X.env) (hpl : (backTo pos (starEach es X.env)).any (·.1) = false) : PE X (.Call (.Subscript a b p) (e :: es) [] pos) (tCallD X CX E tf t) := by
  refine ⟨fun pins s σ H Q I h => ?_⟩
  rw [arm_Call_Sub]
  refine wpAny_bind (thn (hf.run pins s σ H _ I h) fun u s1 ⟨v, H1, I1, r1, q1⟩ => ?_)
  obtain ⟨f, k, fd, ps, sp, rfl, hr, hk, hb, G, q1⟩ := q1
  cases r1
  refine PySem.W.callWith_K (h₀ := X.base) I.ok.mod.kin hk (thn (ha.run pos pins s1 σ _ _ I1 q1) fun us s2 ⟨vs, H2, I2, r, q⟩ => ⟨I2.kIn, ?_⟩) he hpl
  refine run_fn G hr hb .nil hx I2 r ?_
  rw [List.append_nil]
  exact q
/-- a def that a value may be -/
structure FnV (C : Ct) (F : Fns) (X : Cx) (f : Nat) : Prop where
  kp : PySem.W.keepIn X.K (.ref (C.fa f)) = true
  ok : ∃ n fd ps, Room n X.A ∧ Binds X.K fd ps [] ∧ FnOk X.prog X.w X.K X.mg X.base (L2.CX X.prog X.w) n (C.fa f) fd ps (spF C F f)
theorem sx_calld {a b e : Expr} {es : List Expr} {p pos : Pos} {mf : E} {ms : List E} (hfn : ∀ f ds st, F.fn f ds st ≠ .bad → FnV C F X f) (hf : SE C F X .kept (.Subscript a b p) mf) (ha : SA C F X .kept (e :: es) ms) (hp : (e :: es).all plainE = true) : SX C F X (.Call (.Subscript a b p) (e :: es) [] pos) (.calld mf ms) := by
  intro w env σ st Q E ok er sr tk h
  have hp' := hp
  rw [List.all_cons] at hp'
  obtain ⟨p1, p2⟩ := Bool.and_eq_true_iff.mp hp'
  unfold ev at h
  cases e1 : ev F .kept mf env st with
  | err c st1 => rw [e1] at h; exact (show False from h).elim
  | bad => rw [e1] at h; exact (show False from h).elim
  | ok fd st1 =>
    rw [e1] at h
    cases e2 : evs F .kept ms env st1 with
    | err c st2 => simp only [R.bind, e2] at h; exact h.elim
    | bad => simp only [R.bind, e2] at h; exact h.elim
    | ok ds st2 =>
      simp only [R.bind, e2] at h
      cases fd <;> (try exact (show False from h).elim)
      rename_i f
      have h : FEnds C w Q E (F.fn f ds st2) := h
      have hnb : F.fn f ds st2 ≠ .bad := fun z => by rw [z] at h; exact h
      have hx := hfn f ds st2 hnb
      obtain ⟨n, fd, ps, hr, hb, G⟩ := hx.ok
      refine tE_of (pe_callD (passes_call tk fun _ _ _ _ h => h) pe_tE pa_tA (star_ok p1 _ _) (by rw [backTo_any]; exact star_all p2 _)) (hf w env σ st _ st1 _ ok er sr e1 fun v w1 x1 s1 r1 => ?_)
      cases r1
      refine ⟨C.fa f, n, fd, ps, _, rfl, hr, hx.kp, hb, G, ha w1 env σ st1 ds st2 _ x1.ok (er.ext x1) s1 e2 fun vs w2 x2 s2 l2 r2 => ?_⟩
      refine ⟨w2, st2, ds, rfl, x2.ok, s2, rvs_kept l2 r2, ?_⟩
      cases q : F.fn f ds st2 with
      | ok d st' => rw [q] at h; exact fun v w' x s r => h v w' ((x1.trans x2).trans x) s r
      | err c st' => rw [q] at h; exact fun w' x s => h w' ((x1.trans x2).trans x) s
      | bad => exact absurd q hnb
end
end Mi

set_option Elab.async false
set_option linter.all false
set_option maxRecDepth 100000
set_option maxHeartbeats 2000000
/-! Mi9e: sorted(set(t)), index, lists within lists. -/
namespace Mi
open PySem PySem.Spec PyProof.Rows L2
section
variable {X : Cx}
/-- set(t), t a tuple of ints -/
def rSetTup (K : PySem.W.Frag) (w : World) : List V → Hp → VK → Prop := fun xs H Q => ∃ (p : Addr) (ns : List Int), xs = [.ref p] ∧ SqT K H p (ns.map V.int) ∧ ns.length ≤ 50 ∧ ∀ (a : Addr) (c : Nat), H a = none → c ≤ ns.length → Q (.ref a) (upd H a (SetO w a (fun j => decide (j ∈ ns)) c))
theorem cr_setTup (hc : X.calm = true) : CallR X (.type "set") (rSetTup X.K X.w) := by
  intro pins s σ H xs us Q I r h
  obtain ⟨p, ns, rfl, hs, hn, q⟩ := h
  rw [Vals.ref1 r]
  obtain ⟨its, rv, pt, hz⟩ := I.tuple hs
  have hi : IntsAre its.toArray.toList ns := ints_of_vals rv
  refine call_set_tupI ns (I.ok.hd hc) (show s.heap.IsTuple p its.toArray from pt) hi (by unfold scanBound; omega) fun h' tk c R1 hcn k => ?_
  exact ⟨.ref _, upd H s.heap.objs.size (SetO X.w s.heap.objs.size (fun j => decide (j ∈ ns)) c), I.laid (t' := tk) k (Nat.le_refl _) (setO_new R1), rfl, q _ c (I.hok.fresh (Nat.le_refl _)) hcn⟩
/-- t.index(k), t a tuple of ints -/
def rTIdx (K : PySem.W.Frag) : V → List V → Hp → VK → Prop := fun x xs H Q => ∃ (p : Addr) (ns : List Int) (k : Int), x = .ref p ∧ xs = [.int k] ∧ SqT K H p (ns.map V.int) ∧ k ∈ ns ∧ Q (.int (ns.idxOf k : Nat)) H
theorem mt_tidx : MtR X "tuple.index" (rTIdx X.K) := by
  intro pins s σ H x xs v us Q I rx rxs h
  obtain ⟨p, ns, k, rfl, rfl, hs, hk, q⟩ := h
  cases rx
  obtain ⟨u, rfl, ru⟩ := rxs.one
  obtain ⟨t, rfl⟩ := ru
  obtain ⟨its, rv, pt, hz⟩ := I.tuple hs
  have hi : IntsAre its ns := ints_of_vals rv
  exact PySem.SeqAt.tuple_index_ints (show s.heap.IsTuple p its.toArray from pt) hi hk ⟨.int (ns.idxOf k : Nat), H, I.tok _, ⟨_, rfl⟩, q⟩
end
/-! ### the plain side -/
theorem has_ints (k : Int) : ∀ ns : List Int, has (.int k) (ns.map D.int) = decide (k ∈ ns)
  | [] => rfl
  | n :: ns => by
    show (D.eqv (.int n) (.int k) || has (.int k) (ns.map D.int)) = _
    rw [has_ints k ns]
    show ((n == k) || _) = _
    by_cases h : n = k
    · simp [h]
    · have h' : ¬ k = n := fun e => h e.symm
      simp [h, h']
theorem dedup_ints : ∀ ns : List Int, ∃ ms : List Int, dedup (ns.map D.int) = ms.map D.int ∧ ms.Nodup ∧ (∀ k, k ∈ ms ↔ k ∈ ns)
  | [] => ⟨[], rfl, List.nodup_nil, fun _ => Iff.rfl⟩
  | n :: ns => by
    obtain ⟨ms, h1, h2, h3⟩ := dedup_ints ns
    show ∃ ms', (if has (.int n) (ns.map D.int) = true then dedup (ns.map D.int) else .int n :: dedup (ns.map D.int)) = _ ∧ _
    rw [has_ints]
    by_cases h : n ∈ ns
    · rw [if_pos (decide_eq_true h)]
      refine ⟨ms, h1, h2, fun k => ?_⟩
      rw [h3 k, List.mem_cons]
      constructor
      · exact .inr
      · rintro (rfl | q)
        · exact h
        · exact q
    · rw [if_neg (by simp [h])]
      refine ⟨n :: ms, by rw [h1]; rfl, List.nodup_cons.mpr ⟨fun z => h ((h3 n).mp z), h2⟩, fun k => ?_⟩
      rw [List.mem_cons, h3 k, List.mem_cons]
theorem alk_ints (ns : List Int) : Alk (ns.map D.int) := ⟨fun x hx y hy => by
    obtain ⟨a, _, rfl⟩ := List.mem_map.mp hx
    obtain ⟨b, _, rfl⟩ := List.mem_map.mp hy
    rfl, fun x hx => by
    obtain ⟨a, _, rfl⟩ := List.mem_map.mp hx
    rfl⟩
theorem sorted_ints {ns ms : List Int} (h1 : ms.Pairwise (· < ·)) (h2 : ∀ k, k ∈ ms ↔ k ∈ ns) : sortD (dedup (ns.map D.int)) = ms.map D.int := by
  obtain ⟨ds, e, hn, hm⟩ := dedup_ints ns
  rw [e]
  symm
  refine sort_eq (alk_ints ds) ?_ ?_
  · refine List.Perm.map _ ?_
    rw [List.perm_ext_iff_of_nodup (h1.imp fun h e => by omega) hn]
    intro k
    rw [h2 k, hm k]
  · unfold Rise
    rw [List.pairwise_map]
    exact h1.imp fun {a b} h => by
      show decide (b < a) = false
      exact decide_eq_false (by omega)
theorem findIx_ints (k : Int) : ∀ ns : List Int, findIx (.int k) (ns.map D.int) = if k ∈ ns then some (ns.idxOf k) else none
  | [] => rfl
  | n :: ns => by
    show (if D.eqv (.int n) (.int k) = true then some 0 else (match findIx (.int k) (ns.map D.int) with | some n => some (n + 1) | none => none)) = _
    rw [findIx_ints k ns, List.idxOf_cons]
    show (if (n == k) = true then some 0 else _) = _
    by_cases h : n = k
    · simp [h]
    · have h' : ¬ k = n := fun e => h e.symm
      rw [if_neg (by simp [h])]
      by_cases q : k ∈ ns
      · simp [q, h, cond]
        rw [show (n == k) = false by simp [h]]
      · simp [q, h']
theorem ints_of : ∀ {xs : List D} {ns : List Int}, asInts xs = some ns → xs = ns.map D.int
  | [], ns, h => by cases h; rfl
  | x :: xs, ns, h => by
    cases x <;> first | (cases h; done) | skip
    rename_i i
    have h : (match asInts xs with | some bs => some (i :: bs) | none => none) = some ns := h
    cases q : asInts xs with
    | none => rw [q] at h; cases h
    | some bs => rw [q] at h; cases h; rw [ints_of q]; rfl
section
variable {C : Ct} {F : Fns} {X : Cx} {md : Md} {a : Expr} {ma : E} {pos : Pos}
theorem se_sortedSet {p p' pos' : Pos} (hK : X.K = C.K) (hc : X.calm = true) (hg : Gl X "sorted") (hm : X.mg "sorted" = none) (hg' : Gl X "set") (hm' : X.mg "set" = none) (ha : SE C F X .read a ma) (hp : plainE a = true) : SE C F X md (.Call (.Name "sorted" p) [.Call (.Name "set" p') [a] [] pos'] [] pos) (.bi .sortedSet [ma]) := by
  intro w env σ st d st' Q ok er sr e h
  unfold ev evs at e
  obtain ⟨ds, st1, e1, e⟩ := bind_ok e
  obtain ⟨d1, st2, e2, e1⟩ := bind_ok e1
  unfold evs at e1
  cases e1
  obtain ⟨eo, rfl⟩ := of_ok e
  refine tE_of (pe_callB (cr_sortedSet hc) hg hm (by decide +kernel) (pa_cons (pe_callTy (cr_setTup hc) hg' hm' (by decide +kernel) (pa_cons pe_tE pa_nil (star_ok hp _ _)) (by decide) (by decide) (star_ok hp _ _) (by rw [backTo_any]; rfl)) pa_nil)) (ha w env σ st d1 st1 _ ok er sr e2 fun x w1 x1 s1 r1 => ?_)
  simp only [List.map_cons, List.map_nil] at eo
  cases er1 : res st1 d1 <;> rw [er1] at eo <;> first | (cases eo; done) | skip
  rename_i xs
  have eo : (match asInts xs with
    | some _ => if Nat.ble xs.length 50 = true then some (D.lst (sortD (dedup xs))) else none
    | none => none) = some d := eo
  cases ei : asInts xs with
  | none => rw [ei] at eo; cases eo
  | some ns =>
    rw [ei] at eo
    simp only at eo
    split at eo
    · rename_i hl
      have hl : xs.length ≤ 50 := Nat.le_of_ble_eq_true hl
      cases eo
      obtain ⟨b, vs, rfl, h1, h2⟩ := res_tup x1.ok r1 er1
      have ev := rvs_ints h2 ei
      have ex := ints_of ei
      subst ev
      rw [ex] at hl
      refine ⟨b, ns, rfl, by rw [hK]; exact h1, by simpa using hl, fun q c hq hc2 => ⟨q, _, c, rfl, upd_same, by simp at hl; omega, fun ms p hms hmem hlen hpn => ?_⟩⟩
      obtain ⟨n1, n2⟩ := x1.ok.noneS hq
      have x2 : Ext w (w1.put q (SetO X.w q (fun j => decide (j ∈ ns)) c)) := Ext.put x1 n1 (x1.none hq)
      have s2 := s1.put x1.ok n1 n2 (o := SetO X.w q (fun j => decide (j ∈ ns)) c)
      have x3 := Ext.add (o := .lst (ms.map V.int)) x2.ok hpn
      have s3 := s2.add x2.ok (o := .lst (ms.map V.int)) hpn
      refine h (.ref p) _ (x2.trans x3) s3 ?_
      have hs : sortD (dedup xs) = ms.map D.int := by rw [ex]; exact sorted_ints hms fun k => by rw [hmem k, decide_eq_true_eq]
      rw [hs]
      exact (Wd.sL (rvs_mapI _)).rm md
    · cases eo
where
  rvs_mapI {C : Ct} {w : Wd} : ∀ ns : List Int, RVs C w (ns.map V.int) (ns.map D.int)
  | [] => .nil
  | n :: ns => .cons (.int n) (rvs_mapI ns)
end
end Mi

set_option Elab.async false
set_option linter.all false
set_option maxRecDepth 100000
set_option maxHeartbeats 2000000
/-! Mi9f: objects of an own class: making, methods, fields. -/
namespace Mi
open PySem PySem.Spec PyProof.Rows L2
theorem and2 {a b : Bool} (h : (a && b) = true) : a = true ∧ b = true := Bool.and_eq_true_iff.mp h
/-! ### behind a call: the store is cut -/
mutual
theorem RV.cut {C : Ct} {w w' : Wd} {n : Nat} (hs : ∀ a o, w.S a = some o → w'.S a = some o) (hp : ∀ (m : Nat) (a : Addr), m < n → w.φ[m]? = some a → w'.φ[m]? = some a) {v : V} : ∀ {d : D}, RV C w v d → D.under n d = true → RV C w' v d
  | _, .non, _ => .non
  | _, .bl b, _ => .bl b
  | _, .int i, _ => .int i
  | _, .str x, _ => .str x
  | _, .tup h r, u => .tup (SqT.mono' hs h) (RVs.cut hs hp r (by simpa [D.under] using u))
  | _, .lst h r, u => .lst (hs _ _ h) (RVs.cut hs hp r (by simpa [D.under] using u))
  | _, .scr h r, u => .scr (SqL.mono' hs h) (RVs.cut hs hp r (by simpa [D.under] using u))
  | _, .dct h r, u => .dct (DK.mono hs h) (RVs.cut hs hp r (and2 (by simpa [D.under] using u)).2)
  | _, .dcn h k q r, u => .dcn (hs _ _ h) (RVs.cut hs hp k (and2 (by simpa [D.under] using u)).1) q (RVs.cut hs hp r (and2 (by simpa [D.under] using u)).2)
  | _, .loc h, u => .loc (hp _ _ (by simpa [D.under] using u) h)
  | _, .fn f, _ => .fn f
  | _, .rowt h q r, u => .rowt (hs _ _ h) q (RVs.cut hs hp r (by simpa [D.under] using u))
theorem RVs.cut {C : Ct} {w w' : Wd} {n : Nat} (hs : ∀ a o, w.S a = some o → w'.S a = some o) (hp : ∀ (m : Nat) (a : Addr), m < n → w.φ[m]? = some a → w'.φ[m]? = some a) {vs : List V} : ∀ {ds : List D}, RVs C w vs ds → D.unders n ds = true → RVs C w' vs ds
  | _, .nil, _ => .nil
  | _, .cons h r, u => .cons (RV.cut hs hp h (and2 (by simpa [D.unders] using u)).1) (RVs.cut hs hp r (and2 (by simpa [D.unders] using u)).2)
end
theorem unders_of {n : Nat} : ∀ {l : List (Nat × D)}, (l.all fun p => D.under n p.2) = true → D.unders n (l.map (·.2)) = true
  | [], _ => rfl
  | a :: l, h => by
    rw [List.all_cons] at h
    obtain ⟨h1, h2⟩ := and2 h
    show (D.under n a.2 && D.unders n (l.map (·.2))) = true
    rw [h1, unders_of h2]
    rfl
theorem CR.cut {C : Ct} {w w' : Wd} {n : Nat} {a : Addr} {c : Cell} (hs : ∀ a o, w.S a = some o → w'.S a = some o) (hp : ∀ (m : Nat) (a : Addr), m < n → w.φ[m]? = some a → w'.φ[m]? = some a) (ha : w'.H a = w.H a) (h : CR C w a c) (u : Cell.under n c = true) : CR C w' a c := by
  cases h with
  | lst h r => exact .lst (ha.trans h) (r.cut hs hp u)
  | dct h r => obtain ⟨kvs, e, q⟩ := h; exact .dct ⟨kvs, ha.trans e, q⟩ (r.cut hs hp (and2 u).2)
  | dcn h k q r => exact .dcn (ha.trans h) (k.cut hs hp (and2 u).1) q (r.cut hs hp (and2 u).2)
  | ins h k n r => exact .ins (ha.trans h) k n (r.cut hs hp (unders_of u))
theorem cut_ok {C : Ct} {w w' : Wd} {st st' : Store} {d : D} {v : V} (s0 : StR C w st) (x : Ext w w') (s : StR C w' st') (r : RV C w' v d) : ∃ w'', w''.H = w'.H ∧ Ext w w'' ∧ StR C w'' (trunc st.length d st') ∧ RV C w'' v d := by
  unfold trunc
  split
  · exact ⟨w', rfl, x, s, r⟩
  · split
    · rename_i u
      obtain ⟨u1, u2⟩ := and2 u
      have hl : (w'.φ.take st.length) = w.φ := by
        obtain ⟨t, e⟩ := x.pre
        rw [← e, s0.len, List.take_left]
      have hp : ∀ (m : Nat) (a : Addr), m < st.length → w'.φ[m]? = some a → (w'.φ.take st.length)[m]? = some a := fun m a hm e => by
        rw [List.getElem?_take, if_pos hm]; exact e
      refine ⟨{ w' with φ := w'.φ.take st.length }, rfl, ⟨⟨x.ok.sub, ?_, fun a h => x.ok.out a (List.mem_of_mem_take h), fun a h => x.ok.there a (List.mem_of_mem_take h)⟩, x.sub, x.fresh, x.frame, ?_, fun a h => ?_⟩, ⟨?_, fun m c a e1 e2 => ?_⟩, RV.cut (w := w') (w' := { w' with φ := w'.φ.take st.length }) (fun _ _ e => e) hp r u1⟩
      · exact x.ok.nd.sublist (List.take_sublist _ _)
      · show w.φ <+: w'.φ.take st.length
        rw [hl]
        exact List.prefix_refl _
      · left
        rw [← hl]
        exact h
      · show (st'.take st.length).length = (w'.φ.take st.length).length
        rw [List.length_take, List.length_take, s.len]
      · have hm : m < st.length := by
          have := (List.getElem?_eq_some_iff.mp e1).1
          rw [List.length_take] at this
          omega
        rw [List.getElem?_take, if_pos hm] at e1
        have e2' : w'.φ[m]? = some a := by
          have e2 : (w'.φ.take st.length)[m]? = some a := e2
          rw [List.getElem?_take, if_pos hm] at e2
          exact e2
        refine CR.cut (w := w') (w' := { w' with φ := w'.φ.take st.length }) (fun _ _ e => e) hp rfl (s.at_ m c a e1 e2') ?_
        refine List.all_eq_true.mp u2 c ?_
        refine List.mem_of_getElem? (i := m) ?_
        rw [List.getElem?_take, if_pos hm]
        exact e1
    · exact ⟨w', rfl, x, s, r⟩


/-- a def known by its number -/
structure FnK (C : Ct) (F : Fns) (X : Cx) (f : Nat) : Prop where
  ok : ∃ n fd ps, Room (n + 2) X.A ∧ Binds X.K fd ps [] ∧ FnOk X.prog X.w X.K X.mg X.base (L2.CX X.prog X.w) n (C.fa f) fd ps (spF C F f)
/-- an own class: its name, its number, its __init__ -/
structure ClAt (C : Ct) (F : Fns) (X : Cx) (x : Str) (c f : Nat) : Prop where
  mg : X.mg x = some (.ref (C.ca c))
  mks : Mk X.K (C.ca c) (C.fa f)
  fk : FnK C F X f
/-- a method -/
structure MtAt (C : Ct) (F : Fns) (X : Cx) (m : Str) (c f : Nat) : Prop where
  cl : Cls X.K (C.ca c)
  me : Meth X.K (C.ca c) m (C.fa f)
  fk : FnK C F X f
  nf : ∀ g, g < 4 → C.fname g ≠ m
section
variable {C : Ct} {F : Fns} {X : Cx} {md : Md} {pos : Pos}
theorem takesF : Takes X (fun _ _ _ _ => False) := fun u s' z => by
  obtain ⟨_, _, _, _, _, _, _, _, _, _, _, _, _, _, _, _, z⟩ := z
  exact z.elim
theorem se_sx {e : Expr} {m : E} (hm : ∀ env st, ev F md m env st = ev F .kept m env st) (h : SX C F X e m) : SE C F X md e m := by
  intro w env σ st d st' Q ok er sr ee hq
  rw [hm] at ee
  refine h w env σ st Q (fun _ _ _ => False) ok er sr takesF ?_
  rw [ee]
  exact fun v w' x s r => hq v w' x s (r.rm md)
/-- a new instance in the store -/
theorem newins {w : Wd} {st : Store} {x dx : Addr} {c : Nat} (ok : Wok w) (sr : StR C w st) (hx : w.H x = none) (hdx : w.H dx = none) (hne : dx ≠ x) :
    Ext w ⟨w.S, upd (upd w.H dx (.own x)) x (.ins (C.ca c) dx []), w.φ ++ [x]⟩ ∧ StR C ⟨w.S, upd (upd w.H dx (.own x)) x (.ins (C.ca c) dx []), w.φ ++ [x]⟩ (st ++ [.ins c []]) ∧ RV C ⟨w.S, upd (upd w.H dx (.own x)) x (.ins (C.ca c) dx []), w.φ ++ [x]⟩ (.ref x) (.loc st.length) := by
  have hl : st.length = w.φ.length := sr.len
  have nx : x ∉ w.φ := fun z => ok.there x z hx
  have ndx : dx ∉ w.φ := fun z => ok.there dx z hdx
  have oldH : ∀ a u, w.H a = some u → upd (upd w.H dx (.own x)) x (HO.ins (C.ca c) dx []) a = some u := fun a u e => by
    have n1 : a ≠ x := fun z => by rw [z, hx] at e; cases e
    have n2 : a ≠ dx := fun z => by rw [z, hdx] at e; cases e
    rw [upd_ne n1, upd_ne n2]; exact e
  have sx : w.S x = none := by
    cases q : w.S x with
    | none => rfl
    | some u => rw [ok.sub x u q] at hx; cases hx
  have ok2 : Wok ⟨w.S, upd (upd w.H dx (.own x)) x (.ins (C.ca c) dx []), w.φ ++ [x]⟩ := ⟨fun a u e => oldH a u (ok.sub a u e), List.nodup_append.mpr ⟨ok.nd, by simp, fun b hb d' hd' z => by simp at hd'; subst hd'; subst z; exact nx hb⟩, fun b hb => by
    rcases List.mem_append.mp hb with hb | hb
    · exact ok.out b hb
    · simp at hb; subst hb; exact sx, fun b hb => by
    rcases List.mem_append.mp hb with hb | hb
    · cases q : w.H b with
      | none => exact absurd q (ok.there b hb)
      | some u => show upd (upd w.H dx (HO.own x)) x (HO.ins (C.ca c) dx []) b ≠ none; rw [oldH b u q]; simp
    · simp at hb; subst hb; show upd _ _ _ _ ≠ none; rw [upd_same]; simp⟩
  have phi : ∀ (n : Nat) (b : Addr), w.φ[n]? = some b → (w.φ ++ [x])[n]? = some b := fun n b e => by rw [List.getElem?_append_left (List.getElem?_eq_some_iff.mp e).1]; exact e
  have x2 : Ext w ⟨w.S, upd (upd w.H dx (.own x)) x (.ins (C.ca c) dx []), w.φ ++ [x]⟩ := ⟨ok2, fun _ _ e => e, fun _ _ e => .inl e, fun a u e _ => oldH a u e, List.prefix_append _ _, fun b hb => by
    rcases List.mem_append.mp hb with hb | hb
    · exact .inl hb
    · simp at hb; subst hb; exact .inr hx⟩
  refine ⟨x2, ⟨by simp [hl], fun n cl b e1 e2 => ?_⟩, .loc (by
    show (w.φ ++ [x])[st.length]? = some x
    rw [hl, List.getElem?_append_right (Nat.le_refl _)]
    simp)⟩
  by_cases hn' : n < st.length
  · rw [List.getElem?_append_left hn'] at e1
    have e2 : (w.φ ++ [x])[n]? = some b := e2
    rw [List.getElem?_append_left (by omega)] at e2
    have hb := List.mem_of_getElem? e2
    refine (sr.at_ n cl b e1 e2).mono (fun _ _ z => z) phi ?_
    have n1 : b ≠ x := fun z => nx (z ▸ hb)
    have n2 : b ≠ dx := fun z => ndx (z ▸ hb)
    show upd (upd w.H dx (.own x)) x (HO.ins (C.ca c) dx []) b = w.H b
    rw [upd_ne n1, upd_ne n2]
  · have hlt : n < (st ++ [Cell.ins c []]).length := (List.getElem?_eq_some_iff.mp e1).1
    have hn2 : n = st.length := by simp at hlt; omega
    subst hn2
    have e2 : (w.φ ++ [x])[st.length]? = some b := e2
    rw [List.getElem?_append_right (Nat.le_refl _)] at e1
    rw [hl, List.getElem?_append_right (Nat.le_refl _)] at e2
    simp at e1 e2
    subst e1
    subst e2
    exact .ins (fs := []) upd_same (fun p hp => by cases hp) rfl .nil
/-- C(e, ..) -/
theorem sx_make {x : Str} {c f : Nat} {e : Expr} {es : List Expr} {ms : List E} {p : Pos} (hf : ClAt C F X x c f) (hg : Gl X x) (hdb : (x == ("__debug__" : Str)) = false) (ha : SA C F X .kept (e :: es) ms) (hp : (e :: es).all plainE = true) :
    SX C F X (.Call (.Name x p) (e :: es) [] pos) (.make c f ms) := by
  intro w env σ st Q E ok er sr tk h
  have hp' := hp
  rw [List.all_cons] at hp'
  obtain ⟨p1, p2⟩ := Bool.and_eq_true_iff.mp hp'
  unfold ev at h
  cases e1 : evs F .kept ms env st with
  | err c st1 => rw [e1] at h; exact (show False from h).elim
  | bad => rw [e1] at h; exact (show False from h).elim
  | ok ds st1 =>
    rw [e1] at h
    have h : FEnds C w Q E (newO c st1 (F.fn f (.loc st1.length :: ds) (st1 ++ [.ins c []]))) := h
    obtain ⟨n, fd, ps, hr, hb, G⟩ := hf.fk.ok
    refine tE_of (pe_make hf.mks G (hr.mono (by omega)) hg hf.mg hb .nil (passes_call tk fun _ _ _ _ h => h) pa_tA hdb (star_ok p1 _ _) (by rw [backTo_any]; exact star_all p2 _)) (ha w env σ st ds st1 _ ok er sr e1 fun vs w1 x1 s1 l1 r1 => fun q dq hq hdq hne => ?_)
    rw [List.append_nil]
    obtain ⟨x2, s2, r2⟩ := newins (c := c) x1.ok s1 hq hdq hne
    refine ⟨_, st1 ++ [.ins c []], .loc st1.length :: ds, rfl, x2.ok, s2, .cons r2 ((rvs_kept l1 r1).ext x2), ?_⟩
    cases q : F.fn f (.loc st1.length :: ds) (st1 ++ [.ins c []]) with
    | bad => rw [q] at h; exact (show False from h).elim
    | ok d st' =>
      rw [q] at h
      cases d <;> (try exact (show False from h).elim)
      intro v w' x s r
      cases r
      exact ⟨rfl, h _ w' ((x1.trans x2).trans x) s (r2.ext x)⟩
    | err k st' =>
      rw [q] at h
      have h : ∀ w', Ext w w' → StR C w' (trunc st1.length .non st') → E (.ref (C.xa k)) none w'.H := h
      intro w' x s
      obtain ⟨w3, e3, x3, s3, _⟩ := cut_ok (v := .non) (d := .non) s1 (x2.trans x) s .non
      rw [← e3]
      exact h w3 (x1.trans x3) s3
end
end Mi

set_option Elab.async false
set_option linter.all false
set_option maxRecDepth 100000
set_option maxHeartbeats 2000000
/-! Mi9g: methods, fields, lists held in fields. -/
namespace Mi
open PySem PySem.Spec PyProof.Rows L2
section
variable {C : Ct} {F : Fns} {X : Cx} {md : Md} {pos : Pos}
theorem isIns_at {w : Wd} {st : Store} {v : V} {d : D} {c : Nat} (sr : StR C w st) (r : RV C w v d) (h : isIns st d c = true) : ∃ (n : Nat) (a dx : Addr) (fs : List (Str × V)) (ds : List (Nat × D)), d = .loc n ∧ v = .ref a ∧ st[n]? = some (.ins c ds) ∧ w.φ[n]? = some a ∧ w.H a = some (.ins (C.ca c) dx fs) ∧ (∀ p ∈ ds, p.1 < 4) ∧ fs.map (·.1) = ds.map (fun p => C.fname p.1) ∧ RVs C w (fs.map (·.2)) (ds.map (·.2)) := by
  unfold isIns at h
  cases d <;> first | (cases h; done) | skip
  rename_i n
  simp only at h
  cases q : st[n]? with
  | none => rw [q] at h; cases h
  | some cl =>
    rw [q] at h
    cases cl <;> first | (cases h; done) | skip
    rename_i c' ds
    have e := Nat.eq_of_beq_eq_true h
    subst e
    cases r with
    | loc hp =>
      rename_i a
      have z := sr.at_ n _ a q hp
      cases z with
      | ins h1 h2 h3 h4 => exact ⟨n, a, _, _, ds, rfl, rfl, q, hp, h1, h2, h3, h4⟩
theorem nolook {fs : List (Str × V)} {ds : List (Nat × D)} {m : Str} (h1 : ∀ p ∈ ds, p.1 < 4) (h2 : fs.map (·.1) = ds.map (fun p => C.fname p.1)) (nf : ∀ g, g < 4 → C.fname g ≠ m) : fs.lookup m = none := by
  rw [List.lookup_eq_none_iff]
  intro p hp
  have : p.1 ∈ ds.map (fun p => C.fname p.1) := by rw [← h2]; exact List.mem_map.mpr ⟨p, hp, rfl⟩
  obtain ⟨q, hq, e⟩ := List.mem_map.mp this
  have := nf q.1 (h1 q hq)
  rw [bne_iff_ne]
  exact fun z => this (e.trans z.symm)
/-- o.m(e, ..) -/
theorem sx_meth {m : Str} {c f : Nat} {o e : Expr} {es : List Expr} {mo : E} {ms : List E} {apos : Pos} {pl : Sem Bool} (hf : MtAt C F X m c f) (ho : SE C F X .kept o mo) (ha : SA C F X .kept (e :: es) ms) (hp : (e :: es).all plainE = true)
    (ht : eval (.Call (.Attribute o m apos) (e :: es) [] pos) X.env = (do
      let ov ← eval o X.env
      standAt apos.atName
      let (f, first) ← holding [ov] (getMethod ov m pl)
      callWith pos f first (backTo pos (starEach (e :: es) X.env)) (backToKw pos (keywordEach [] X.env)))) :
    SX C F X (.Call (.Attribute o m apos) (e :: es) [] pos) (.meth c f mo ms) := by
  intro w env σ st Q E ok er sr tk h
  have hp' := hp
  rw [List.all_cons] at hp'
  obtain ⟨p1, p2⟩ := Bool.and_eq_true_iff.mp hp'
  unfold ev at h
  cases e1 : ev F .kept mo env st with
  | err c st1 => rw [e1] at h; exact (show False from h).elim
  | bad => rw [e1] at h; exact (show False from h).elim
  | ok d st1 =>
    rw [e1] at h
    simp only [R.bind] at h
    by_cases hi : isIns st1 d c = true
    case neg => rw [if_neg hi] at h; exact (show False from h).elim
    rw [if_pos hi] at h
    cases e2 : evs F .kept ms env st1 with
    | err c st2 => rw [e2] at h; exact (show False from h).elim
    | bad => rw [e2] at h; exact (show False from h).elim
    | ok ds st2 =>
      rw [e2] at h
      have h : FEnds C w Q E (F.fn f (d :: ds) st2) := h
      obtain ⟨n, fd, ps, hr, hb, G⟩ := hf.fk.ok
      refine tE_of (pe_meth pe_tE hf.cl hf.me G (hr.mono (by omega)) hb .nil (passes_call tk fun _ _ _ _ h => h) pa_tA (star_ok p1 _ _) (by rw [backTo_any]; exact star_all p2 _) ht) (ho w env σ st d st1 _ ok er sr e1 fun v w1 x1 s1 r1 => ?_)
      obtain ⟨k, a, dx, fs, gs, rfl, rfl, i1, i2, i3, i4, i5, i6⟩ := isIns_at s1 r1 hi
      refine ⟨a, dx, fs, rfl, i3, nolook i4 i5 hf.nf, ha w1 env σ st1 ds st2 _ x1.ok (er.ext x1) s1 e2 fun vs w2 x2 s2 l2 r2 => ?_⟩
      rw [List.append_nil]
      refine ⟨w2, st2, .loc k :: ds, rfl, x2.ok, s2, .cons (RV.ext r1 x2) (rvs_kept l2 r2), ?_⟩
      exact FEnds.lift (x1.trans x2) h
theorem sx_meth0 {m : Str} {c f : Nat} {o : Expr} {mo : E} {apos : Pos} {pl : Sem Bool} (hf : MtAt C F X m c f) (ho : SE C F X .kept o mo)
    (ht : eval (.Call (.Attribute o m apos) [] [] pos) X.env = (do
      let ov ← eval o X.env
      standAt apos.atName
      let (f, first) ← holding [ov] (getMethod ov m pl)
      callWith pos f first (backTo pos (starEach [] X.env)) (backToKw pos (keywordEach [] X.env)))) :
    SX C F X (.Call (.Attribute o m apos) [] [] pos) (.meth c f mo []) := by
  intro w env σ st Q E ok er sr tk h
  unfold ev at h
  cases e1 : ev F .kept mo env st with
  | err c st1 => rw [e1] at h; exact (show False from h).elim
  | bad => rw [e1] at h; exact (show False from h).elim
  | ok d st1 =>
    rw [e1] at h
    simp only [R.bind] at h
    by_cases hi : isIns st1 d c = true
    case neg => rw [if_neg hi] at h; exact (show False from h).elim
    rw [if_pos hi] at h
    have h : FEnds C w Q E (F.fn f [d] st1) := by
      unfold evs at h
      exact h
    obtain ⟨n, fd, ps, hr, hb, G⟩ := hf.fk.ok
    refine tE_of (pe_meth0 pe_tE hf.cl hf.me G (hr.mono (by omega)) hb .nil (passes_call tk fun _ _ _ _ h => h) ht) (ho w env σ st d st1 _ ok er sr e1 fun v w1 x1 s1 r1 => ?_)
    obtain ⟨k, a, dx, fs, gs, rfl, rfl, i1, i2, i3, i4, i5, i6⟩ := isIns_at s1 r1 hi
    refine ⟨a, dx, fs, rfl, i3, nolook i4 i5 hf.nf, ?_⟩
    show spF C F f [.ref a] w1.H Q E
    exact ⟨w1, st1, [.loc k], rfl, x1.ok, s1, .cons r1 .nil, FEnds.lift x1 h⟩
/-- a field of the class -/
structure FdAt (C : Ct) (X : Cx) (c g : Nat) (n : Str) : Prop where
  cl : Cls X.K (C.ca c)
  no : NoAttr X.K (C.ca c) n
  nm : C.fname g = n
  lt : g < 4
  inj : ∀ g', g' < 4 → C.fname g' = n → g' = g
theorem look_fld {w : Wd} {n : Str} {g : Nat} (inj : ∀ g', g' < 4 → C.fname g' = n → g' = g) (nm : C.fname g = n) : ∀ {fs : List (Str × V)} {ds : List (Nat × D)} {d : D}, (∀ p ∈ ds, p.1 < 4) → fs.map (·.1) = ds.map (fun p => C.fname p.1) → RVs C w (fs.map (·.2)) (ds.map (·.2)) → ds.lookup g = some d → ∃ v, fs.lookup n = some v ∧ RV C w v d
  | [], [], _, _, _, _, h => by cases h
  | [], _ :: _, _, _, h, _, _ => by cases h
  | _ :: _, [], _, _, h, _, _ => by cases h
  | (x, v) :: fs, (k, d') :: ds, d, h1, h2, h3, h4 => by
    simp only [List.map_cons, List.cons.injEq] at h2
    obtain ⟨h2, h2'⟩ := h2
    cases h3 with
    | cons r1 r2 =>
      rw [List.lookup_cons] at h4
      by_cases hk : g = k
      · subst hk
        rw [beq_self_eq_true] at h4
        cases h4
        exact ⟨v, by rw [List.lookup_cons, h2, nm, beq_self_eq_true], r1⟩
      · rw [beq_eq_false_iff_ne.mpr hk] at h4
        obtain ⟨v', e, r⟩ := look_fld inj nm (fun p hp => h1 p (List.mem_cons_of_mem _ hp)) h2' r2 h4
        have nx : n ≠ x := fun z => hk (inj k (h1 (k, d') List.mem_cons_self) (by rw [z, h2])).symm
        exact ⟨v', by rw [List.lookup_cons, beq_eq_false_iff_ne.mpr nx]; exact e, r⟩
/-- o.f -/
theorem se_fld {c g : Nat} {n : Str} {o : Expr} {mo : E} (hf : FdAt C X c g n) (ho : SE C F X .kept o mo) (hb : attributeBase o n X.env (eval o X.env) = eval o X.env) (hone : ∀ a b, C.ca a = C.ca b) : SE C F X md (.Attribute o n pos) (.fld mo g) := by
  intro w env σ st d st' Q ok er sr ee h
  unfold ev at ee
  obtain ⟨dx, st1, e1, ee⟩ := bind_ok ee
  cases dx <;> first | (cases ee; done) | skip
  rename_i k
  simp only at ee
  cases q : st1[k]? with
  | none => rw [q] at ee; cases ee
  | some cl =>
    rw [q] at ee
    cases cl <;> first | (cases ee; done) | skip
    rename_i c' ds
    obtain ⟨el, rfl⟩ := of_ok ee
    refine tE_of (pe_fld pe_tE hb) (ho w env σ st _ st1 _ ok er sr e1 fun v w1 x1 s1 r1 => ?_)
    have hca : C.ca c' = C.ca c := hone c' c
    cases r1 with
    | loc hp =>
      rename_i a
      have z := s1.at_ k _ a q hp
      cases z with
      | ins h1 h2 h3 h4 =>
        obtain ⟨v, e, r⟩ := look_fld hf.inj hf.nm h2 h3 h4 el
        exact ⟨a, _, _, _, v, rfl, h1, by rw [hca]; exact hf.cl, by rw [hca]; exact hf.no, e, h v w1 x1 s1 (r.rm md)⟩
/-- a fresh list goes to the store -/
theorem se_mk {e : Expr} {m : E} (h1 : SF C F X e m) : SE C F X md e (.mk m) := by
  intro w env σ st d st' Q ok er sr ee h
  unfold ev at ee
  obtain ⟨dx, st1, e1, ee⟩ := bind_ok ee
  cases dx <;> first | (cases ee; done) | skip
  rename_i xs
  cases ee
  refine h1 w env σ st (.lst xs) st1 Q ok er sr e1 rfl fun q w' x s r hn => ?_
  obtain ⟨x2, s2, rl⟩ := newloc (cl := .lst xs) x s r hn fun w' q z => by cases z with | lst h1 h2 => exact .lst h1 h2
  exact h (.ref q) ⟨w'.S, w'.H, w'.φ ++ [q]⟩ x2 s2 (rl.rm md)
/-- list(x), a new list -/
theorem sf_listc {a : Expr} {ma : E} {p : Pos} (hP : X.prog = C.P) (hW : X.w = C.W) (hK : X.K = C.K) (hc : X.calm = true) (hg : Gl X "list") (hm : X.mg "list" = none) (ha : SE C F X .read a ma) (hp : plainE a = true) : SF C F X (.Call (.Name "list" p) [a] [] pos) (.bi .list [ma]) := by
  intro w env σ st d st' Q ok er sr e hd h
  unfold ev evs at e
  obtain ⟨ds, st1, e1, e⟩ := bind_ok e
  obtain ⟨d1, st2, e2, e1⟩ := bind_ok e1
  unfold evs at e1
  cases e1
  obtain ⟨eo, rfl⟩ := of_ok e
  simp only [List.map_cons, List.map_nil] at eo
  cases ex : res st1 d1 <;> rw [ex] at eo <;> first | (cases eo; done) | skip
  case lst xs =>
    cases eo
    refine tE_of (pe_callTy call_list_of hg hm (by decide +kernel) (pa_cons pe_tE pa_nil (star_ok hp _ _)) (by decide) (by decide) (star_ok hp _ _) (by rw [backTo_any]; rfl)) (ha w env σ st d1 st1 _ ok er sr e2 fun x w1 x1 s1 r1 => ?_)
    obtain ⟨b, vs, rfl, h1, h2⟩ := res_lst x1.ok s1 r1 ex
    exact ⟨b, vs, rfl, .inl (SqL.of h1), own_new x1 s1 h2 h⟩
  case tup xs =>
    cases eo
    refine tE_of (pe_callTy call_list_of hg hm (by decide +kernel) (pa_cons pe_tE pa_nil (star_ok hp _ _)) (by decide) (by decide) (star_ok hp _ _) (by rw [backTo_any]; rfl)) (ha w env σ st d1 st1 _ ok er sr e2 fun x w1 x1 s1 r1 => ?_)
    obtain ⟨b, vs, rfl, h1, h2⟩ := res_tup x1.ok r1 ex
    exact ⟨b, vs, rfl, .inr (by rw [hK]; exact h1), own_new x1 s1 h2 h⟩
  case dcn ks vs =>
    cases eo
    refine tE_of (pe_callTy (call_list_N hc) hg hm (by decide +kernel) (pa_cons pe_tE pa_nil (star_ok hp _ _)) (by decide) (by decide) (star_ok hp _ _) (by rw [backTo_any]; rfl)) (ha w env σ st d1 st1 _ ok er sr e2 fun x w1 x1 s1 r1 => ?_)
    obtain ⟨b, es, rfl, h1, h2, h3, h4⟩ := res_dcn x1.ok s1 r1 ex
    exact ⟨b, es, rfl, by rw [hP, hW]; exact h1, own_new x1 s1 h2 h⟩
/-- o.append(e), o told by an expression -/
theorem ss_appendAt {o e : Expr} {mo me : E} {apos cpos : Pos} (ho : SE C F X .kept o mo) (he : SE C F X .kept e me) (hp : plainE e = true) (hbase : attributeBase o "append" X.env (eval o X.env) = eval o X.env) (hl : (apos.endLine == cpos.line) = true) :
    SS C F X (.Expr (.Call (.Attribute o "append" apos) [e] [] cpos) pos) (.appendAt mo me) := by
  intro w0 w env σ st D E tk p h
  unfold ex at h
  obtain ⟨d, st1, e1, h⟩ := toS_cases h
  cases d <;> (try exact (show False from h).elim)
  rename_i n
  simp only at h
  cases q : st1[n]? with
  | none => rw [q] at h; exact (show False from h).elim
  | some cl =>
    rw [q] at h
    cases cl <;> (try exact (show False from h).elim)
    rename_i xs0
    obtain ⟨d2, st2, e2, h⟩ := toS_cases h
    refine tS_of (ps_expr (pe_bm PySem.F.plainAttrs_list PySem.F.slot_list_append PySem.F.type_list_append mt_append pe_tE (pa_cons pe_tE pa_nil (star_ok hp _ _)) hbase (meth_few hp _) hl (star_ok hp _ _) (by rw [backTo_any]; rfl)) rfl) (ho w env σ st _ st1 _ p.x.ok p.er p.sr e1 fun v w1 x1 s1 r1 => ?_)
    cases r1 with
    | loc hn =>
      rename_i a
      have z := s1.at_ n _ a q hn
      cases z with
      | lst h1 h2 =>
        rename_i vs0
        have p1 := p.ext x1 s1
        refine ⟨.inl ⟨rfl, vs0, SqL.of h1⟩, he w1 env σ st1 d2 st2 _ x1.ok p1.er s1 e2 fun y w2 x2 s2 r2 => ?_⟩
        have p2 := p1.ext x2 s2
        have hn2 := x2.phi n a hn
        cases q2 : st2[n]? with
        | none => simp only [q2] at h; exact (show False from h).elim
        | some cl2 =>
          simp only [q2] at h
          cases cl2 <;> (try exact (show False from h).elim)
          rename_i xs
          simp only at h
          split at h <;> (try exact (show False from h).elim)
          rename_i hf
          have z2 := s2.at_ n _ a q2 hn2
          cases z2 with
          | lst g1 g2 =>
            rename_i vs
            have hlen := g2.length
            have hfl := fit_le hf
            refine ⟨a, vs, y, rfl, rfl, g1, by omega, ?_⟩
            have hm : a ∈ w2.φ := List.mem_of_getElem? hn2
            obtain ⟨p3, L, x3⟩ := p2.storeSet (o := .lst (vs ++ [y])) (cl := .lst (xs ++ [d2])) hn2 (.lst upd_same ((g2.append (.cons r2 .nil)).later (Later.put p2.x.ok (p2.x.ok.out a hm))))
            exact h (w2.put a (.lst (vs ++ [y]))) σ p3 ((x1.trans x2).later.trans L)
/-- o.pop() -/
theorem se_pop {o : Expr} {mo : E} {apos cpos : Pos} (ho : SE C F X .kept o mo) (hbase : attributeBase o "pop" X.env (eval o X.env) = eval o X.env) (hl : (apos.endLine == cpos.line) = true) : SE C F X md (.Call (.Attribute o "pop" apos) [] [] cpos) (.pop mo) := by
  intro w env σ st d st' Q ok er sr ee h
  unfold ev at ee
  obtain ⟨dx, st1, e1, ee⟩ := bind_ok ee
  cases dx <;> first | (cases ee; done) | skip
  rename_i n
  simp only at ee
  cases q : st1[n]? with
  | none => rw [q] at ee; cases ee
  | some cl =>
    rw [q] at ee
    cases cl <;> first | (cases ee; done) | skip
    rename_i xs
    simp only at ee
    cases q2 : xs[xs.length - 1]? with
    | none => rw [q2] at ee; cases ee
    | some dl =>
      rw [q2] at ee
      cases ee
      refine tE_of (pe_bm0 PySem.F.plainAttrs_list PySem.F.slot_list_pop PySem.F.type_list_pop mt_pop pe_tE hbase hl) (ho w env σ st _ st1 _ ok er sr e1 fun v w1 x1 s1 r1 => ?_)
      cases r1 with
      | loc hn =>
        rename_i a
        have z := s1.at_ n _ a q hn
        cases z with
        | lst h1 h2 =>
          rename_i vs
          obtain ⟨y, g1, g2⟩ := h2.get q2
          have hlen := h2.length
          refine ⟨.inl ⟨rfl, vs, SqL.of h1⟩, a, vs, y, rfl, rfl, h1, by rw [hlen]; exact g1, ?_⟩
          have hm : a ∈ w1.φ := List.mem_of_getElem? hn
          have hS := x1.ok.out a hm
          have L := Later.put (o := .lst vs.dropLast) x1.ok hS
          have pt : Pt C w1 w1 [] [] st1 := ⟨Ext.refl x1.ok, ⟨rfl, fun i s o e1 => (by cases e1), fun i j s s' o e1 => (by cases e1)⟩, s1, fun i s a e1 => (by cases e1)⟩
          have hd0 : RVs C w1 vs.dropLast xs.dropLast := by
            rw [List.dropLast_eq_take, List.dropLast_eq_take, hlen]
            exact h2.take _
          have hd : RVs C (w1.put a (.lst vs.dropLast)) vs.dropLast xs.dropLast := hd0.later L
          obtain ⟨p3, L3, x3⟩ := pt.storeSet (o := .lst vs.dropLast) (cl := .lst xs.dropLast) hn (.lst upd_same hd)
          exact h y (w1.put a (.lst vs.dropLast)) (x1.trans x3) p3.sr ((g2.later L).rm md)
theorem put_fld {w : Wd} {n : Str} {g : Nat} (lt : g < 4) (inj : ∀ g', g' < 4 → C.fname g' = n → g' = g) (nm : C.fname g = n) {v : V} {d : D} (r : RV C w v d) : ∀ {fs : List (Str × V)} {ds : List (Nat × D)}, (∀ p ∈ ds, p.1 < 4) → fs.map (·.1) = ds.map (fun p => C.fname p.1) → RVs C w (fs.map (·.2)) (ds.map (·.2)) →
    (∀ p ∈ Mi.putF g d ds, p.1 < 4) ∧ (L2.putF n v fs).map (·.1) = (Mi.putF g d ds).map (fun p => C.fname p.1) ∧ RVs C w ((L2.putF n v fs).map (·.2)) ((Mi.putF g d ds).map (·.2))
  | [], [], _, _, _ => by
    refine ⟨fun p hp => ?_, ?_, ?_⟩
    · have hp : p ∈ [(g, d)] := hp
      rw [List.mem_singleton.mp hp]; exact lt
    · show [n] = [C.fname g]
      rw [nm]
    · exact .cons r .nil
  | [], _ :: _, _, h, _ => by cases h
  | _ :: _, [], _, h, _ => by cases h
  | (x, u) :: fs, (k, d') :: ds, h1, h2, h3 => by
    simp only [List.map_cons, List.cons.injEq] at h2
    obtain ⟨h2, h2'⟩ := h2
    cases h3 with
    | cons r1 r2 =>
      have hk4 := h1 (k, d') List.mem_cons_self
      by_cases hk : k = g
      · subst hk
        have ex : x = n := h2.trans nm
        have e1 : Mi.putF k d ((k, d') :: ds) = (k, d) :: ds := by unfold Mi.putF; simp
        have e2 : L2.putF n v ((x, u) :: fs) = (x, v) :: fs := by unfold L2.putF; simp [ex]
        rw [e1, e2]
        refine ⟨fun p hp => ?_, ?_, .cons r r2⟩
        · rcases List.mem_cons.mp hp with rfl | hp
          · exact hk4
          · exact h1 p (List.mem_cons_of_mem _ hp)
        · show x :: _ = C.fname k :: _
          rw [h2]
          exact congrArg _ h2'
      · obtain ⟨q1, q2, q3⟩ := put_fld lt inj nm r (fun p hp => h1 p (List.mem_cons_of_mem _ hp)) h2' r2
        have nx : ¬ x = n := fun z => hk (inj k hk4 (h2.symm.trans z))
        have hb : Nat.beq k g = false := by
          cases q : Nat.beq k g with
          | false => rfl
          | true => exact absurd (Nat.eq_of_beq_eq_true q) hk
        have e1 : Mi.putF g d ((k, d') :: ds) = (k, d') :: Mi.putF g d ds := by
          show (if Nat.beq k g = true then _ else _) = _
          rw [hb, if_neg Bool.false_ne_true]
        have e2 : L2.putF n v ((x, u) :: fs) = (x, u) :: L2.putF n v fs := by
          show (if x = n then _ else _) = _
          rw [if_neg nx]
        rw [e1, e2]
        refine ⟨fun p hp => ?_, ?_, .cons r1 q3⟩
        · rcases List.mem_cons.mp hp with rfl | hp
          · exact hk4
          · exact q1 p hp
        · show x :: _ = C.fname k :: _
          rw [h2]
          exact congrArg _ q2
theorem putF_len (g : Nat) (d : D) : ∀ ds : List (Nat × D), (Mi.putF g d ds).length ≤ ds.length + 1
  | [] => Nat.le_refl _
  | p :: r => by
    unfold Mi.putF
    split
    · simp
    · have := putF_len g d r
      simp; omega
/-- x.f = e -/
theorem ss_setfld {i c g : Nat} {n x : Str} {e : Expr} {me : E} {p1 p2 : Pos} (hf : FdAt C X c g n) (hone : ∀ a b, C.ca a = C.ca b) (hi : X.N[i]? = some x) (hv : Vis X.env.scope x) (hd : (x == ("__debug__" : Str)) = false) (hcd : (x == ("__classdict__" : Str)) = false) (he : SE C F X .kept e me) (hs : noComp e = true) :
    SS C F X (.Assign [.Attribute (.Name x p1) n p2] e pos) (.setfld i g me) := by
  intro w0 w env σ st D E tk p h
  unfold ex at h
  obtain ⟨d, st1, e1, h⟩ := toS_cases h
  cases q : env[i]? with
  | none => simp only [q] at h; exact (show False from h).elim
  | some s =>
    simp only [q] at h
    cases s <;> (try exact (show False from h).elim)
    rename_i dv
    cases dv <;> (try exact (show False from h).elim)
    rename_i k
    simp only at h
    cases qk : st1[k]? with
    | none => rw [qk] at h; exact (show False from h).elim
    | some cl =>
      rw [qk] at h
      cases cl <;> (try exact (show False from h).elim)
      rename_i c' ds
      simp only at h
      split at h <;> (try exact (show False from h).elim)
      rename_i hg
      obtain ⟨hg1, hg2⟩ : Nat.blt g 4 = true ∧ Nat.blt ds.length 900 = true := and2 hg
      have hg2 : ds.length < 900 := Nat.le_of_ble_eq_true hg2
      refine tS_of (ps_fld (pe_var hi hv hd hcd) pe_tE (noComp_sw hs _ _ _)) (he w env σ st d st1 _ p.x.ok p.er p.sr e1 fun v w1 x1 s1 r1 => ?_)
      have p1 := p.ext x1 s1
      obtain ⟨o, eo, rs⟩ := p1.er.get q
      obtain ⟨vo, rfl, rv⟩ := rs
      cases rv with
      | loc hn =>
        rename_i a
        have z := s1.at_ k _ a qk hn
        cases z with
        | ins h1 h2 h3 h4 =>
          rename_i dx fs
          have hca : C.ca c' = C.ca c := hone c' c
          have hlf : fs.length = ds.length := by
            have := congrArg List.length h3
            simpa using this
          refine ⟨_, eo, a, C.ca c', dx, fs, rfl, h1, by rw [hca]; exact hf.cl, by rw [hca]; exact hf.no, by omega, ?_⟩
          have hm : a ∈ w1.φ := List.mem_of_getElem? hn
          have hS := x1.ok.out a hm
          have L := Later.put (o := .ins (C.ca c') dx (L2.putF n v fs)) x1.ok hS
          have r1 : RV C w1 v d := r1
          obtain ⟨g1, g2, g3⟩ := put_fld hf.lt hf.inj hf.nm r1 h2 h3 h4
          obtain ⟨p3, L3, x3⟩ := p1.storeSet (o := .ins (C.ca c') dx (L2.putF n v fs)) (cl := .ins c' (Mi.putF g d ds)) hn (.ins upd_same g1 g2 (g3.later L))
          exact h _ σ p3 (x1.later.trans L3)
end
end Mi

set_option Elab.async false
set_option linter.all false
set_option maxRecDepth 100000
set_option maxHeartbeats 2000000
/-! Mi9h: len(o), str(o), o == x, isinstance(x, C) for an own class. -/
namespace Mi
open PySem PySem.Spec PyProof.Rows L2
section
variable {X : Cx} {CX : CXT} {n : Nat} {f C : Addr} {fd : FuncData} {ps : List Str} {sp : Sp}
theorem inst_of {pins : List (Addr × Obj)} {σ : L2.St} {H : Hp} {s : Shared} {a dx : Addr} {fs : List (Str × V)} (I : Inv X pins σ H s) (e : H a = some (.ins C dx fs)) : ∃ od, PySem.W.InstAt s.heap a (PySem.W.instObj C dx) C (some od) := by
  obtain ⟨mA, o, _⟩ := ins_get I.hok e
  obtain ⟨od, J, _⟩ := o.look
  exact ⟨od, J⟩
/-- an own method is run around A -/
theorem run_at {A : Around} {pins : List (Addr × Obj)} {σ : L2.St} {H : Hp} {s : Shared} {Q : VK} {us : List Value} {vs : List V} {R : Value → Shared → Prop} (F : FnOk X.prog X.w X.K X.mg X.base CX n f fd ps sp) (hr : Room n A) (e0 : Env0 X.prog X.w X.K X.mg X.base A X.stack s H) (hb : Binds X.K fd ps []) (hx : ∀ (H : Hp) (s : Shared) (e : Value) (s' : Shared), CX X.stack H s (fun _ _ _ => False) e s' → False)
    (I : Inv X pins σ H s) (r : Vals vs us) (h : sp vs H Q (fun _ _ _ => False)) (hR : ∀ u s', EP X pins σ Q u s' → R u s') : wpAny (model X.prog X.w) A (call (.ref f) us) R X.xe s := by
  have hl : us.length = ps.length := by rw [← r.length]; exact F.len _ _ _ _ h
  have b := hb s us I.kIn (by rw [List.append_nil]; exact hl)
  rw [List.append_nil] at b
  refine wpAny_call (codeAny_mono (F.run A X.stack s H ⟨us, []⟩ us vs Q _ hr e0 b r h) fun r s' hq => ?_)
  cases r with
  | error e => exact (hx _ _ _ _ hq).elim
  | ok fl =>
    cases fl with
    | ret u => exact hR _ _ (I.after hq)
    | next => exact False.elim hq
    | brk => exact False.elim hq
    | cont => exact False.elim hq
def rOwnLen (C : Addr) (sp : Sp) : List V → Hp → VK → Prop := fun vs H Q => ∃ a dx fs, vs = [.ref a] ∧ H a = some (.ins C dx fs) ∧ sp [.ref a] H (fun v H2 => ∃ k : Int, v = .int k ∧ 0 ≤ k ∧ k < 2 ^ 63 ∧ Q (.int k) H2) (fun _ _ _ => False)
theorem cr_ownLen (F : FnOk X.prog X.w X.K X.mg X.base (L2.CX X.prog X.w) n f fd ps sp) (hr : Room (n + 1) X.A) (hb : Binds X.K fd ps []) (hm : Meth X.K C "__len__" f) : CallR X (.builtin "len") (rOwnLen C sp) := by
  intro pins s σ H xs us Q I r h
  obtain ⟨a, dx, fs, rfl, e, q⟩ := h
  rw [Vals.ref1 r]
  obtain ⟨od, J⟩ := inst_of I e
  obtain ⟨m, hF⟩ := I.fr
  refine PySem.W.len_K hF I.ok.mod.kin J hm.at_ hm.fn ?_
  refine run_at F hr.in1 I.env0.in1 hb (fun H s e s' z => by obtain ⟨_, _, _, _, _, _, _, _, _, _, _, _, z⟩ := z; exact z) (us := [.ref a]) (vs := [.ref a]) I (.cons rfl .nil) q fun u s' ⟨v, H', I', ru, k, ev, k0, k1, q'⟩ => ?_
  subst ev
  obtain ⟨t, rfl⟩ := ru
  exact ⟨⟨k0, k1⟩, .int k, H', I'.tok _, ⟨_, rfl⟩, q'⟩
def rOwnStr (C : Addr) (sp : Sp) : List V → Hp → VK → Prop := fun vs H Q => ∃ a dx fs, vs = [.ref a] ∧ H a = some (.ins C dx fs) ∧ sp [.ref a] H (fun v H2 => ∃ x : Str, v = .str x ∧ Q (.str x) H2) (fun _ _ _ => False)
theorem cr_ownStr (F : FnOk X.prog X.w X.K X.mg X.base (L2.CX X.prog X.w) n f fd ps sp) (hr : Room (n + 2) X.A) (hb : Binds X.K fd ps []) (hm : Meth X.K C "__str__" f) : CallR X (.type "str") (rOwnStr C sp) := by
  intro pins s σ H xs us Q I r h
  obtain ⟨a, dx, fs, rfl, e, q⟩ := h
  rw [Vals.ref1 r]
  obtain ⟨od, J⟩ := inst_of I e
  refine PySem.W.kso_call ?_ I.kIn J hm.at_ hm.fn ?_
  · have := hr.in1.in1.un; omega
  refine run_at F hr.in1.in1 I.env0.in1.in1 hb (fun H s e s' z => by obtain ⟨_, _, _, _, _, _, _, _, _, _, _, _, z⟩ := z; exact z) (us := [.ref a]) (vs := [.ref a]) I (.cons rfl .nil) q fun u s' ⟨v, H', I', ru, x, ev, q'⟩ => ?_
  subst ev
  obtain ⟨t, rfl⟩ := ru
  exact ⟨.str x, H', I', ⟨_, rfl⟩, q'⟩
/-- the kinds of things that an instance is held against -/
inductive EqTo (K : PySem.W.Frag) (C : Addr) (H : Hp) : V → Prop
  | ins {b dy : Addr} {gs : List (Str × V)} : H b = some (.ins C dy gs) → EqTo K C H (.ref b)
  | str (x : Str) : PySem.W.subIn K (.type "str") (.ref C) = some false → EqTo K C H (.str x)
def rOwnEq (K : PySem.W.Frag) (C : Addr) (sp : Sp) : R2 := fun x y H Q => ∃ a dx fs, x = .ref a ∧ H a = some (.ins C dx fs) ∧ EqTo K C H y ∧ sp [.ref a, y] H (fun v H2 => ∃ b : Bool, v = .bl b ∧ Q (.bl b) H2) (fun _ _ _ => False)
theorem op_ownEq (F : FnOk X.prog X.w X.K X.mg X.base (L2.CX X.prog X.w) n f fd ps sp) (hr : Room n X.A) (hb : Binds X.K fd ps []) (hm : Meth X.K C "__eq__" f) : OpR X (compareOp .Eq) (rOwnEq X.K C sp) := by
  intro pins s σ H x y v u Q I rx ry h
  obtain ⟨a, dx, fs, rfl, e, ty, q⟩ := h
  cases (show v = Value.ref a from rx)
  obtain ⟨od, J⟩ := inst_of I e
  obtain ⟨m, hF⟩ := I.fr
  have hty : ∃ tb, PySem.W.Looks (model X.prog X.w) s.heap (typeOf u) tb ∧ PySem.W.notFirst X.K C tb = true := by
    cases ty with
    | ins eb =>
      cases (show u = Value.ref _ from ry)
      obtain ⟨od2, J2⟩ := inst_of I eb
      exact ⟨.ref C, J2.type, by unfold PySem.W.notFirst; simp⟩
    | str x hs =>
      obtain ⟨t, rfl⟩ := ry
      exact ⟨.type "str", PySem.W.Looks.of_pure rfl, by unfold PySem.W.notFirst; rw [hs]; simp⟩
  obtain ⟨tb, h1, h2⟩ := hty
  show wpAny _ _ (richCompare .Eq (.ref a) u) _ _ _
  refine PySem.W.cmp_K (op := .Eq) (tb := tb) hr.units0 hF I.ok.mod.kin J h1 h2 hm.at_ hm.fn ?_
  refine run_at F hr I.env0 hb (fun H s e s' z => by obtain ⟨_, _, _, _, _, _, _, _, _, _, _, _, z⟩ := z; exact z) (us := [.ref a, u]) (vs := [.ref a, y]) I (.cons rfl (.cons ry .nil)) q fun u s' ⟨v, H', I', ru, b, ev, q'⟩ => ?_
  subst ev
  cases ru
  exact ⟨.bl b, H', I', rfl, q'⟩
end
section
variable {C : Ct} {F : Fns} {X : Cx} {md : Md} {pos : Pos}
theorem spc_parts {k c f : Nat} {mo : E} {ms : List E} {env : Env} {st st' : Store} {d : D} (h : ev F md (.spc k c f mo ms) env st = .ok d st') : ∃ (o : D) (st1 : Store) (ds : List D) (st2 : Store), ev F .kept mo env st = .ok o st1 ∧ evs F .kept ms env st1 = .ok ds st2 ∧ isIns st2 o c = true ∧ argOk st2 c k ds = true ∧ spcB k (F.fn f (o :: ds) st2) = .ok d st' := by
  unfold ev at h
  obtain ⟨o, st1, e1, h⟩ := bind_ok h
  obtain ⟨ds, st2, e2, h⟩ := bind_ok h
  split at h
  · rename_i hi
    exact ⟨o, st1, ds, st2, e1, e2, (and2 hi).1, (and2 hi).2, h⟩
  · cases h
theorem se_ownLen {c f : Nat} {o : Expr} {mo : E} {p : Pos} (hf : MtAt C F X "__len__" c f) (hg : Gl X "len") (hm : X.mg "len" = none) (ho : SE C F X .kept o mo) (hp : plainE o = true) : SE C F X md (.Call (.Name "len" p) [o] [] pos) (.spc 0 c f mo []) := by
  intro w env σ st d st' Q ok er sr ee h
  obtain ⟨od, st1, ds, st2, e1, e2, hi, ha, e3⟩ := spc_parts ee
  unfold evs at e2
  cases e2
  obtain ⟨n, fd, ps, hr, hb, G⟩ := hf.fk.ok
  refine tE_of (pe_callB (cr_ownLen G (hr.mono (by omega)) hb hf.me) hg hm (by decide +kernel) (pa_cons pe_tE pa_nil (star_ok hp _ _)) (by decide) (by decide) (star_ok hp _ _) (by rw [backTo_any]; rfl)) (ho w env σ st od st1 _ ok er sr e1 fun v w1 x1 s1 r1 => ?_)
  obtain ⟨k, a, dx, fs, gs, rfl, rfl, i1, i2, i3, i4, i5, i6⟩ := isIns_at s1 r1 hi
  refine ⟨a, dx, fs, rfl, i3, w1, st1, [.loc k], rfl, x1.ok, s1, .cons r1 .nil, ?_⟩
  cases q : F.fn f [.loc k] st1 with
  | bad => rw [q] at e3; cases e3
  | err _ _ => rw [q] at e3; cases e3
  | ok dr st3 =>
    rw [q] at e3
    cases dr <;> first | (cases e3; done) | skip
    rename_i j
    have e3 : (if (decide (0 ≤ j) && inI 62 j) = true then R.ok (D.int j) st3 else .bad) = .ok d st' := e3
    split at e3
    · rename_i hj
      cases e3
      obtain ⟨j1, j2⟩ := and2 hj
      have j1 := of_decide_eq_true j1
      have j2 : j.natAbs < 2 ^ 62 := Nat.le_of_ble_eq_true j2
      intro v w' x s r
      cases r
      exact ⟨j, rfl, j1, by omega, h _ w' (x1.trans x) s ((RV.int j).rm md)⟩
    · cases e3
theorem se_ownStr {c f : Nat} {o : Expr} {mo : E} {p : Pos} (hf : MtAt C F X "__str__" c f) (hg : Gl X "str") (hm : X.mg "str" = none) (ho : SE C F X .kept o mo) (hp : plainE o = true) : SE C F X md (.Call (.Name "str" p) [o] [] pos) (.spc 1 c f mo []) := by
  intro w env σ st d st' Q ok er sr ee h
  obtain ⟨od, st1, ds, st2, e1, e2, hi, ha, e3⟩ := spc_parts ee
  unfold evs at e2
  cases e2
  obtain ⟨n, fd, ps, hr, hb, G⟩ := hf.fk.ok
  refine tE_of (pe_callTy (cr_ownStr G hr hb hf.me) hg hm (by decide +kernel) (pa_cons pe_tE pa_nil (star_ok hp _ _)) (by decide) (by decide) (star_ok hp _ _) (by rw [backTo_any]; rfl)) (ho w env σ st od st1 _ ok er sr e1 fun v w1 x1 s1 r1 => ?_)
  obtain ⟨k, a, dx, fs, gs, rfl, rfl, i1, i2, i3, i4, i5, i6⟩ := isIns_at s1 r1 hi
  refine ⟨a, dx, fs, rfl, i3, w1, st1, [.loc k], rfl, x1.ok, s1, .cons r1 .nil, ?_⟩
  cases q : F.fn f [.loc k] st1 with
  | bad => rw [q] at e3; cases e3
  | err _ _ => rw [q] at e3; cases e3
  | ok dr st3 =>
    rw [q] at e3
    cases dr <;> first | (cases e3; done) | skip
    cases e3
    intro v w' x s r
    cases r with
    | str z => exact ⟨z, rfl, h _ w' (x1.trans x) s ((RV.str z).rm md)⟩
theorem se_ownEq {c f : Nat} {o e : Expr} {mo me : E} (hf : MtAt C F X "__eq__" c f) (hs : PySem.W.subIn X.K (.type "str") (.ref (C.ca c)) = some false) (ho : SE C F X .kept o mo) (he : SE C F X .kept e me) (hmk : behindInMarks .Eq e = false) : SE C F X md (.Compare o [.Eq] [e] pos) (.spc 2 c f mo [me]) := by
  intro w env σ st d st' Q ok er sr ee h
  obtain ⟨od, st1, ds, st2, e1, e2, hi, ha, e3⟩ := spc_parts ee
  unfold evs at e2
  obtain ⟨d2, st3, e2, e4⟩ := bind_ok e2
  unfold evs at e4
  cases e4
  obtain ⟨n, fd, ps, hr, hb, G⟩ := hf.fk.ok
  refine tE_of (pe_cmpR (op_ownEq G (hr.mono (by omega)) hb hf.me) pe_tE pe_tE hmk) (ho w env σ st od st1 _ ok er sr e1 fun v w1 x1 s1 r1 => he w1 env σ st1 d2 st2 _ x1.ok (er.ext x1) s1 e2 fun y w2 x2 s2 r2 => ?_)
  have r1 : RV C w2 v od := RV.ext r1 x2
  obtain ⟨k, a, dx, fs, gs, rfl, rfl, i1, i2, i3, i4, i5, i6⟩ := isIns_at s2 r1 hi
  have r2 : RV C w2 y d2 := r2
  have ty : EqTo X.K (C.ca c) w2.H y := by
    have ha : (isStr d2 || isIns st2 d2 c) = true := ha
    rcases Bool.or_eq_true_iff.mp ha with z | z
    · cases d2 <;> first | (cases z; done) | skip
      cases r2 with
      | str x => exact .str x hs
    · obtain ⟨k', b, dy, fs', gs', rfl, rfl, _, _, j3, _⟩ := isIns_at s2 r2 z
      exact .ins j3
  refine ⟨a, dx, fs, rfl, i3, ty, w2, st2, [.loc k, d2], rfl, x2.ok, s2, .cons r1 (.cons r2 .nil), ?_⟩
  cases q : F.fn f [.loc k, d2] st2 with
  | bad => rw [q] at e3; cases e3
  | err _ _ => rw [q] at e3; cases e3
  | ok dr st4 =>
    rw [q] at e3
    cases dr <;> first | (cases e3; done) | skip
    cases e3
    intro v w' x s r
    cases r
    exact ⟨_, rfl, h _ w' ((x1.trans x2).trans x) s ((RV.bl _).rm md)⟩
/-- isinstance(x, C) -/
structure IsAt (C : Ct) (X : Cx) (x : Str) (c : Nat) : Prop where
  mg : X.mg x = some (.ref (C.ca c))
  cl : Cls X.K (C.ca c)
  ha : PySem.W.findIn X.K (.ref (C.ca c)) "__class__" = some (some (.builtin "object.__class__"))
  hn : PySem.W.specialIn X.K (.builtin "object.__class__") "__get__" = some (some (.builtin "getset_descriptor.__get__"))
  ht : PySem.W.takesIn X.K (.builtin "object.__class__") = some true
  hm : PySem.W.mroIn X.K (C.ca c) (.type "object") = some true
  yes : PySem.W.kitOne X.K (.ref (C.ca c)) (.ref (C.ca c)) = some true
  no : PySem.W.kitOne X.K (.type "str") (.ref (C.ca c)) = some false
theorem se_isc {c : Nat} {x : Str} {a : Expr} {ma : E} {p p' : Pos} (hc : IsAt C X x c) (hg : Gl X "isinstance") (hm : X.mg "isinstance" = none) (hg' : Gl X x) (hdb : (x == ("__debug__" : Str)) = false) (ha : SE C F X .kept a ma) (hp : plainE a = true) :
    SE C F X md (.Call (.Name "isinstance" p) [a, .Name x p'] [] pos) (.isc ma c) := by
  intro w env σ st d st' Q ok er sr e h
  unfold ev at e
  obtain ⟨dx, st1, e1, e⟩ := bind_ok e
  refine tE_of (pe_callB call_isi hg hm (by decide +kernel) (pa_cons pe_tE (pa_cons (pe_glob (v := .ref (C.ca c)) hg' hc.mg rfl hdb) pa_nil) (star_ok hp _ _)) (by decide) (by decide) (star_ok hp _ _) (by rw [backTo_any]; rfl)) (ha w env σ st dx st1 _ ok er sr e1 fun v w1 x1 s1 r1 => ?_)
  have r1 : RV C w1 v dx := r1
  cases dx <;> first | (cases e; done) | skip
  · cases e
    cases r1 with
    | str z => exact ⟨.str z, .ref (C.ca c), .type "str", .ref (C.ca c), false, rfl, .own _, .base (.str z), hc.no, h _ _ x1 s1 ((RV.bl _).rm md)⟩
  · simp only at e
    split at e
    · rename_i hi
      cases e
      obtain ⟨k', b, dy, fs', gs', _, rfl, _, _, j3, _⟩ := isIns_at s1 r1 hi
      exact ⟨.ref b, .ref (C.ca c), .ref (C.ca c), .ref (C.ca c), true, rfl, .own _, .base (.ins j3 hc.cl hc.ha hc.hn hc.ht hc.hm), hc.yes, h _ _ x1 s1 ((RV.bl _).rm md)⟩
    · cases e
end
end Mi

set_option Elab.async false
set_option linter.all false
set_option maxRecDepth 100000
set_option maxHeartbeats 2000000
/-! Mi9i: a comprehension over a list of the store. -/
namespace Mi
open PySem PySem.Spec PyProof.Rows L2
section
variable {C : Ct} {F : Fns} {X : Cx} {md : Md} {pos : Pos}
theorem se_lcL {elt tg iter : Expr} {ifs : List Expr} {scope : Scope} {own : List (Str × Nat)} {melt mit : E} {mifs : List E} {t : T} (hc : X.calm = true) (hN : X.N.Nodup) (ok : BlkOk X.N X.env.scope scope own)
    (ho : SE C F X .kept iter mit) (hg : Blks X scope fun Y => SG C Y tg t) (ht : Blks X scope fun Y => STs C F Y ifs mifs) (he : Blks X scope fun Y => SE C F Y .kept elt melt) (hts : ∀ j ∈ tslots t, j ∈ own.map (·.2))
    (hs : ∀ x, foldedSetIterable iter X.env x = pure x) : SE C F X md (.ListComp elt [⟨tg, iter, ifs, 0⟩] scope pos) (.lcL melt (own.map (·.2)) t mit mifs) := by
  intro w env σ st d st' Q okw er sr e h
  unfold ev at e
  obtain ⟨dx, st1, e1, e⟩ := bind_ok e
  cases dx <;> first | (cases e; done) | skip
  rename_i n
  simp only at e
  split at e <;> (try contradiction)
  rename_i xs hcell
  split at e <;> (try contradiction)
  rename_i hfit0
  have hfit : xs.length ≤ sizeLine := fit_le (by simpa using hfit0)
  refine tE_of (pe_lc hc hN (pi_seq pe_tE) ok lcg_ok lct_ok lce_ok hs) (ho w env σ st (.loc n) st1 _ okw er sr e1 fun v w1 x1 s1 r1 => ?_)
  have r1 : RV C w1 v (.loc n) := r1
  obtain ⟨b, rfl, hq⟩ : ∃ b, v = .ref b ∧ w1.φ[n]? = some b := by cases r1 with | loc hq => exact ⟨_, rfl, hq⟩
  have cr0 := s1.at_ n _ b hcell hq
  obtain ⟨vs0, hb0⟩ : ∃ vs0, w1.H b = some (.lst vs0) := by cases cr0 with | lst hb _ => exact ⟨_, hb⟩
  refine ⟨b, rfl, .inl ⟨vs0, SqL.of hb0, fun _ => fun p hp => ?_⟩⟩
  have er1 := er.ext x1
  have ns1 : w1.S p = none := by
    cases q : w1.S p with
    | none => rfl
    | some u => rw [x1.ok.sub p u q] at hp; cases hp
  have np1 : p ∉ w1.φ := fun z => x1.ok.there p z hp
  obtain ⟨turn, hturn⟩ : ∃ turn : D → Store → R (Option D), turn = (fun x st => match bind t x (wipe env (own.map (·.2))) with
      | some env2 => (evs F .read mifs env2 st).bind fun bs st => (match bs with
        | [] => (ev F .kept melt env2 st).bind fun d st => .ok (some d) st
        | [.bl true] => (ev F .kept melt env2 st).bind fun d st => .ok (some d) st
        | [.bl false] => .ok none st
        | _ => .bad)
      | none => .bad) := ⟨_, rfl⟩
  have e : lcLoc turn n xs.length xs.length [] st1 = .ok d st' := by rw [hturn]; exact e
  refine ⟨fun i m H => m = xs.length - i ∧ i ≤ xs.length ∧ ∃ (wi : Wd) (sti : Store) (acc : List D) (accV : List V), wi.H = H ∧ Ext w1 wi ∧ wi.S p = none ∧ p ∉ wi.φ ∧ wi.H p = some (.lst accV) ∧ RVs C wi accV acc ∧ acc.length ≤ i ∧ StR C wi sti ∧ lcLoc turn n xs.length (xs.length - i) acc sti = .ok d st', ⟨xs.length, by simp, Nat.zero_le _, w1.put p (.lst []), st1, [], [], rfl, Ext.put (Ext.refl x1.ok) ns1 hp, ns1, np1, upd_same, .nil, Nat.le_refl _, s1.put x1.ok ns1 np1, e⟩, ?_⟩
  rintro i m H ⟨rfl, hi, wi, sti, acc, accV, rfl, xi, si, fi, hD, ra, la, sri, ei⟩
  have hqi := xi.phi n b hq
  by_cases hlt : i < xs.length
  · rw [show xs.length - i = (xs.length - (i + 1)) + 1 by omega] at ei
    unfold lcLoc at ei
    split at ei <;> (try contradiction)
    rename_i ys hys
    split at ei <;> (try contradiction)
    rename_i x0 hx0
    rw [show xs.length - (xs.length - (i + 1) + 1) = i by omega] at hx0
    obtain ⟨o, st2, et, ei⟩ := bind_ok ei
    have cr := sri.at_ n _ b hys hqi
    obtain ⟨vs, hb, rb⟩ : ∃ vs, wi.H b = some (.lst vs) ∧ RVs C wi vs ys := by cases cr with | lst hb rb => exact ⟨_, hb, rb⟩
    obtain ⟨x, evx, rx⟩ := rb.get hx0
    refine .inr ⟨⟨vs, x, SqL.of hb, evx⟩, fun H' => ∃ (wi : Wd) (sti : Store) (acc : List D) (accV : List V), wi.H = H' ∧ Ext w1 wi ∧ wi.S p = none ∧ p ∉ wi.φ ∧ wi.H p = some (.lst accV) ∧ RVs C wi accV acc ∧ acc.length ≤ i + 1 ∧ StR C wi sti ∧ lcLoc turn n xs.length (xs.length - (i + 1)) acc sti = .ok d st',
      fun H' q => ⟨xs.length - (i + 1), by omega, rfl, hlt, q⟩, fun x' H' hyl => ?_⟩
    obtain ⟨rfl, hyl⟩ := hyl
    have e2 := hyl vs (SqL.of hb)
    rw [evx] at e2
    cases e2
    have g2 : Ext wi wi := Ext.refl xi.ok
    have x2 := xi
    rw [hturn] at et
    simp only at et
    split at et <;> (try contradiction)
    rename_i env2 eb
    intro sB HB CB clB fpB
    refine hg sB HB CB clB fpB wi (wipe env (own.map (·.2))) (L2.wipe σ (own.map (·.2))) x x0 env2 _ xi.ok ((er1.ext x2).wipe _) rx eb fun σ2 er2 o2 => ?_
    refine ⟨?_, ?_⟩
    · rw [wipe_off o2 hts, wipe_wipe]
    -- what the new list is behind a step that keeps it
    have keepD : ∀ {wa wb : Wd}, Ext wa wb → wa.S p = none → p ∉ wa.φ → wa.H p = some (.lst accV) → wb.S p = none ∧ p ∉ wb.φ ∧ wb.H p = some (.lst accV) := fun {wa wb} xx h1 h2 h3 => by
      refine ⟨?_, fun z => ?_, xx.frame p _ h3 h2⟩
      · cases q : wb.S p with
        | none => rfl
        | some u =>
          rcases xx.fresh p u q with z | z
          · rw [h1] at z; cases z
          · rw [h3] at z; cases z
      · rcases xx.new p z with z | z
        · exact h2 z
        · rw [h3] at z; cases z
    obtain ⟨k1, k2, k3⟩ := keepD g2 si fi hD
    have s2 : StR C wi sti := sri
    -- the element
    have elem : ∀ {w3 : Wd} {st3 : Store}, Ext wi w3 → StR C w3 st3 → ((ev F .kept melt env2 st3).bind fun d st => R.ok (some d) st) = .ok o st2 →
        Blks X scope fun Y => tE Y elt σ2 w3.H fun y H4 => ∃ acc, H4 p = some (.lst acc) ∧ acc.length < sizeLine ∧ ∃ (wi : Wd) (sti : Store) (acc' : List D) (accV : List V), wi.H = upd H4 p (.lst (acc ++ [y])) ∧ Ext w1 wi ∧ wi.S p = none ∧ p ∉ wi.φ ∧ wi.H p = some (.lst accV) ∧ RVs C wi accV acc' ∧ acc'.length ≤ i + 1 ∧ StR C wi sti ∧ lcLoc turn n xs.length (xs.length - (i + 1)) acc' sti = .ok d st' := fun {w3 st3} x3 s3 ee => by
      obtain ⟨dv, st4, e4, ee⟩ := bind_ok ee
      cases ee
      intro sB HB CB clB fpB
      obtain ⟨l1, l2, l3⟩ := keepD x3 k1 k2 k3
      refine he sB HB CB clB fpB w3 env2 σ2 st3 dv st2 _ x3.ok (er2.ext x3) s3 e4 fun v w4 x4 s4 r4 => ?_
      obtain ⟨m1, m2, m3⟩ := keepD x4 l1 l2 l3
      have r4 : RV C w4 v dv := r4
      have ra4 : RVs C w4 accV acc := ((ra.ext g2).ext x3).ext x4
      refine ⟨accV, m3, by rw [ra.length]; omega, w4.put p (.lst (accV ++ [v])), st2, acc ++ [dv], accV ++ [v], rfl, Ext.put ((x2.trans x3).trans x4) m1 hp, m1, m2, upd_same, (ra4.append (.cons r4 .nil)).later (Later.put x4.ok m1), by simp; omega, s4.put x4.ok m1 m2, ei⟩
    -- the tests
    rcases Classical.em (mifs = []) with hm | hm
    · subst hm
      have et : ((ev F .kept melt env2 sti).bind fun d st => R.ok (some d) st) = .ok o st2 := et
      intro sB HB CB clB fpB
      rcases ht sB HB CB clB fpB with ⟨hi0, _⟩ | ⟨c, m, _, hm, _⟩
      · subst hi0
        refine tTs_of pts_nil ?_
        unfold tYes
        dsimp only
        rw [if_pos rfl]
        exact elem (Ext.refl xi.ok) s2 et
      · cases hm
    · intro sB HB CB clB fpB
      rcases ht sB HB CB clB fpB with ⟨_, hm0⟩ | ⟨c, m, hi0, hm0, hst⟩
      · exact absurd hm0 hm
      · subst hi0
        subst hm0
        obtain ⟨bs, st3, e3, et⟩ := bind_ok et
        unfold evs at e3
        obtain ⟨b1, st4, e4, e3⟩ := bind_ok e3
        unfold evs at e3
        cases e3
        have hb : ∃ b, b1 = .bl b := by
          cases b1 <;> first | exact ⟨_, rfl⟩ | (simp at et)
        obtain ⟨bb, rfl⟩ := hb
        refine tTs_of (pts_one pt_tT) (hst wi env2 σ2 sti (.bl bb) st3 _ xi.ok er2 s2 e4 (fun b w3 x3 s3 eb => ?_) ⟨bb, rfl⟩)
        cases eb
        cases bb with
        | true =>
          rw [if_pos rfl]
          exact elem x3 s3 et
        | false =>
          rw [if_neg (by decide)]
          cases et
          obtain ⟨l1, l2, l3⟩ := keepD x3 k1 k2 k3
          exact ⟨w3, st2, acc, accV, rfl, x2.trans x3, l1, l2, l3, (ra.ext g2).ext x3, by omega, s3, ei⟩
  · have hi2 : i = xs.length := by omega
    subst hi2
    rw [Nat.sub_self] at ei
    unfold lcLoc at ei
    split at ei <;> (try contradiction)
    rename_i ys hys
    split at ei <;> (try contradiction)
    rename_i hle
    cases ei
    have cr := sri.at_ n _ b hys hqi
    obtain ⟨vs, hb, rb⟩ : ∃ vs, wi.H b = some (.lst vs) ∧ RVs C wi vs ys := by cases cr with | lst hb rb => exact ⟨_, hb, rb⟩
    refine .inl ⟨⟨vs, SqL.of hb, by rw [rb.length]; exact hle⟩, ?_⟩
    have xf := Ext.fix (o := .lst accV) xi hD fi si hp
    exact h (.ref p) (wi.fix p (.lst accV)) (x1.trans xf) (sri.fix xi.ok hD si fi) (RV.rm md (.lst upd_same (ra.later (Later.fix xi.ok hD fi si))))
end
end Mi

set_option Elab.async false
set_option linter.all false
set_option maxRecDepth 100000
set_option maxHeartbeats 2000000
/-! Mi9j: texts: str(i), sep.join(l). -/
namespace Mi
open PySem PySem.Spec PyProof.Rows L2
theorem strInt_ok : ∀ n : Nat, n < 100 → ((toString (n : Int) : String) : Str).cps.toList = strInt (n : Int) := by decide +kernel
theorem strInt_eq {i : Int} (h0 : 0 ≤ i) (h1 : i < 100) : ((toString i : String) : Str).cps.toList = strInt i := by
  obtain ⟨n, rfl⟩ := Int.eq_ofNat_of_zero_le h0
  exact strInt_ok n (by omega)
theorem joinS_eq (s : List Nat) : ∀ l : List (List Nat), TL.joinL s l = joinS s l
  | [] => rfl
  | [p] => rfl
  | p :: q :: r => by
    show p ++ (s ++ TL.joinL s (q :: r)) = p ++ s ++ joinS s (q :: r)
    rw [joinS_eq s (q :: r), List.append_assoc]
theorem res_isstr {st : Store} {d : D} {x : List Nat} (h : res st d = .str x) : d = .str x := by
  match d, h with
  | .str y, h => exact h
  | .loc n, h =>
    have h : (match st[n]? with
      | some (.lst xs) => D.lst xs
      | some (.dct ks vs) => .dct ks vs
      | some (.dcn ks vs) => .dcn ks vs
      | _ => .loc n) = .str x := h
    split at h <;> cases h
section
variable {C : Ct} {F : Fns} {X : Cx} {md : Md} {pos : Pos}
theorem bi_str : BiOk C X (.type "str") .str [fun xs H Q => ∃ i, xs = [.int i] ∧ i.natAbs.log2 < 1920 ∧ Q (.str ((toString i : String) : Str)) H] := by
  refine ⟨fun r hr => by simp only [List.mem_singleton] at hr; subst hr; exact call_str_int, fun w st vs ds d Q ok sr l r e h => .inl ?_⟩
  unfold biF at e
  split at e <;> (try contradiction)
  rename_i i _ ex
  obtain ⟨v, d', rfl, rv, ed⟩ := one1 l r ex
  split at e
  · rename_i hi
    cases e
    obtain ⟨h1, h2⟩ := and2 hi
    have h1 := of_decide_eq_true h1
    have h2 := of_decide_eq_true h2
    refine ⟨i, by rw [res_int rv ed], ?_, h _ _ (Ext.refl ok) sr ?_⟩
    · have : i.natAbs < 2 ^ 7 := by omega
      by_cases q : i.natAbs = 0
      · rw [q]; decide
      · have := (Nat.log2_lt (n := i.natAbs) (k := 7) q).mpr (by omega)
        omega
    · rw [← strInt_eq h1 h2]
      exact .str _
  · cases e
theorem rvs_strs {w : Wd} : ∀ {vs : List V} {ds : List D} {ys : List (List Nat)}, RVs C w vs ds → asStrs ds = some ys → ∃ zs : List Str, vs = zs.map V.str ∧ ys = zs.map fun z => z.cps.toList
  | _, _, ys, .nil, h => by cases h; exact ⟨[], rfl, rfl⟩
  | _, _, ys, .cons (d := d) (ds := ds) r rs, h => by
    cases d <;> first | (cases h; done) | skip
    rename_i b
    have h : (match asStrs ds with | some bs => some (b :: bs) | none => none) = some ys := h
    cases q : asStrs ds with
    | none => rw [q] at h; cases h
    | some bs =>
      rw [q] at h
      cases h
      obtain ⟨zs, e1, e2⟩ := rvs_strs rs q
      cases r with
      | str x => exact ⟨x :: zs, by rw [e1]; rfl, by rw [e2]; rfl⟩
theorem se_join {o e : Expr} {mo me : E} {apos cpos : Pos} (ho : SE C F X .read o mo) (he : SE C F X .read e me) (hp : plainE e = true) (hbase : attributeBase o "join" X.env (eval o X.env) = eval o X.env) (hl : (apos.endLine == cpos.line) = true) : SE C F X md (.Call (.Attribute o "join" apos) [e] [] cpos) (.bi .join [mo, me]) := by
  intro w env σ st d st' Q ok er sr ee h
  unfold ev evs at ee
  obtain ⟨ds, st1, e1, ee⟩ := bind_ok ee
  obtain ⟨dx, st2, e2, e1⟩ := bind_ok e1
  unfold evs at e1
  obtain ⟨ds2, st3, e1, e4⟩ := bind_ok e1
  obtain ⟨dy, st4, e3, e1⟩ := bind_ok e1
  unfold evs at e1
  cases e1
  cases e4
  obtain ⟨eo, rfl⟩ := of_ok ee
  simp only [List.map_cons, List.map_nil] at eo
  cases ex : res st1 dx <;> rw [ex] at eo <;> first | (cases eo; done) | skip
  rename_i sep
  cases ey : res st1 dy <;> rw [ey] at eo <;> first | (cases eo; done) | skip
  rename_i xs
  have eo : (match asStrs xs with
    | some ys => if fit ((ys.map List.length).sum + ys.length * sep.length) = true then some (D.str (joinS sep ys)) else none
    | none => none) = some d := eo
  cases es : asStrs xs with
  | none => rw [es] at eo; cases eo
  | some ys =>
    rw [es] at eo
    simp only at eo
    split at eo
    · rename_i hf
      cases eo
      have dxs := res_isstr ex
      subst dxs
      refine tE_of (pe_join pe_tE pe_tE (by rw [star_ok hp]; rfl) hbase hl) (ho w env σ st _ st2 _ ok er sr e2 fun x w1 x1 s1 r1 => ?_)
      obtain ⟨z, rfl, hz⟩ := res_str (st := st2) r1 rfl
      refine ⟨⟨z, rfl⟩, he w1 env σ st2 dy st1 _ x1.ok (er.ext x1) s1 e3 fun y w2 x2 s2 r2 => ?_⟩
      obtain ⟨b, vs, rfl, h1, h2⟩ := res_lst x2.ok s2 r2 ey
      obtain ⟨zs, rfl, rfl⟩ := rvs_strs h2 es
      refine ⟨z, b, zs, rfl, rfl, .inl (SqL.of h1), ?_, h _ _ (x1.trans x2) s2 ?_⟩
      · have hf := fit_le hf
        have hs := sizeLine_eq
        rw [List.map_map, List.length_map, ← hz] at hf
        have e1 : (zs.map (·.length)).sum = (zs.map (List.length ∘ fun z : Str => z.cps.toList)).sum := by
          congr 1
        have e2 : z.length = z.cps.toList.length := by
          show z.cps.size = _
          simp
        rw [e1, e2]
        omega
      · have : TL.tl (Txt.join z zs) = joinS sep (zs.map fun z => z.cps.toList) := by
          first | (rw [TL.join_eq, TL.tl_join, joinS_eq, ← hz]; done) | (rw [TL.join_eq, TL.tl_join, joinS_eq, ← hz]; rfl) | (rw [TL.join_eq, TL.tl_join, joinS_eq]; done)
        rw [← this]
        exact (RV.str _).rm md
    · cases eo
end
end Mi

set_option Elab.async false
set_option linter.all false
set_option maxRecDepth 100000
set_option maxHeartbeats 2000000
/-! Mi10: a text of Python held against one of the small language; what agrees does the same. -/
namespace Mi
open PySem PySem.Spec PyProof.Rows L2

/-- what is written of the module: its defs, its constants, its own classes -/
structure Gs where
  fns : List (Str × Nat)
  cons : List (Str × D)
  errs : List (Str × Nat) := []
  wh : Bool := false
  clss : List (Str × Nat × Nat) := []
  mts : List (Str × Nat × Nat) := []
  flds : List (Str × Nat × Nat) := []

def okName (x : Str) : Bool := !(x == ("__debug__" : Str)) && !(x == ("__classdict__" : Str)) && !(x == ("__name__" : Str))
def visB (sc : Scope) (x : Str) : Bool := match sc.names.lookup x with
  | some .local => true
  | some .cell => true
  | some .free => true
  | _ => false
def glB (sc : Scope) (x : Str) : Bool := match sc.names.lookup x with
  | some .globalImplicit => true
  | _ => false
def locB (top : Bool) (sc : Scope) (x : Str) : Bool := match sc.names.lookup x with
  | some .local => true
  | some .cell => top
  | _ => false
def atB (N : List Str) (i : Nat) (x : Str) : Bool := match N[i]? with
  | some y => x == y
  | none => false
def opB : Operator → Op → Bool
  | .Add, .add => true
  | .Sub, .sub => true
  | .Mult, .mul => true
  | .FloorDiv, .fdiv => true
  | .Mod, .mod => true
  | .Pow, .pow => true
  | _, _ => false
def cmB : CmpOp → Cm → Bool
  | .Eq, .eq => true
  | .NotEq, .ne => true
  | .Lt, .lt => true
  | .LtE, .le => true
  | .Gt, .gt => true
  | .GtE, .ge => true
  | .Is, .is => true
  | .IsNot, .isnt => true
  | .In, .inn => true
  | .NotIn, .nin => true
  | _, _ => false
def cm4 : CmpOp → Bool
  | .Lt => true
  | .LtE => true
  | .Gt => true
  | .GtE => true
  | _ => false
def noSet : Expr → Bool
  | .Set .. => false
  | _ => true
def biX : Bi → Option Str
  | .len => some "len"
  | .all => some "all"
  | .any => some "any"
  | .sum => some "sum"
  | .min => some "min"
  | .max => some "max"
  | .tuple => some "tuple"
  | .tupleR => some "tuple"
  | .list => some "list"
  | .int => some "int"
  | .sorted => some "sorted"
  | .str => some "str"
  | _ => none
def tyX : Ty → Str
  | .int => "int"
  | .bool => "bool"
  | .tuple => "tuple"
  | .str => "str"
def lookD (x : Str) : List (Str × D) → Option D
  | [] => none
  | (y, d) :: r => if x == y then some d else lookD x r
mutual
def sameD : D → D → Bool
  | .non, .non => true
  | .bl a, .bl b => a == b
  | .int a, .int b => a == b
  | .str a, .str b => a == b
  | .tup a, .tup b => sameDs a b
  | _, _ => false
def sameDs : List D → List D → Bool
  | [], [] => true
  | x :: xs, y :: ys => sameD x y && sameDs xs ys
  | _, _ => false
end
def isBad : E → Bool
  | .bad => true
  | _ => false
def chkCon : Const → D → Bool
  | .none, .non => true
  | .bool a, .bl b => a == b
  | .int a, .int b => a == b
  | .str a, .str b => a.cps.toList == b
  | _, _ => false

/-- the ways in which an expression is looked at: as a value, as a test, as what is walked (by a target of several names, or any) -/
inductive Kd where
  | ex | ts | it (several : Bool)

def chkAll (ck : Expr → E → Bool) : List Expr → List E → Bool
  | [], [] => true
  | e :: es, m :: ms => plainE e && ck e m && chkAll ck es ms
  | _, _ => false
def chkBool (ck : Expr → E → Bool) (op : BoolOp) : List Expr → E → Bool
  | [], _ => false
  | e :: es, m => match es with
    | [] => ck e m
    | _ :: _ => (match op, m with
      | .And, .and ma mb => ck e ma && chkBool ck op es mb
      | .Or, .or ma mb => ck e ma && chkBool ck op es mb
      | _, _ => false)
def chkOpt (ck : Expr → E → Bool) : Option Expr → List E → Bool
  | none, [] => true
  | some e, [m] => ck e m
  | _, _ => false
def chkT (N : List Str) (top : Bool) (sc : Scope) : Nat → Expr → T → Bool
  | 0, _, _ => false
  | n + 1, e, t => (match e with
    | .Name x _ => (match t with
      | .name i => atB N i x && locB top sc x
      | _ => false)
    | .Tuple es _ _ => (match t with
      | .tup ts => decide (es.length = ts.length) && (es.zip ts).all fun p => plainT p.1 && chkT N top sc n p.1 p.2
      | _ => false)
    | _ => false)
/-- a block's target: a local name, or one of the block's own cells -/
def chkTb (N : List Str) (scope sc : Scope) (n : Nat) (tg : Expr) (t : T) : Bool := chkT N false (relS scope sc) n tg t || (match tg, t with
  | .Name x _, .name i => atB N i x && (scope.names.lookup x == some .cell) && locB true (relS scope sc) x
  | _, _ => false)
def subB (is js : List Nat) : Bool := is.all fun i => js.contains i
/-- the block's own names with their places -/
def ownOf (N : List Str) (scope : Scope) (vs : List Nat) : List (Str × Nat) := vs.map fun i => ((N[i]?).getD Str.empty, i)

/-- how subexpressions are looked at -/
abbrev Ck := Scope → Kd → Expr → E → Bool
def isRange (as : List Expr) : Bool := match as with
  | [_] => true
  | [_, _] => true
  | [_, _, _] => true
  | _ => false
def ckWalk (ck : Ck) (sc : Scope) (name : Str) (n : Nat) (e : Expr) (ms : List E) : Bool := match e with
  | .Call f as kws _ => (match f, kws with
    | .Name x _, [] => x == name && glB sc name && decide (as.length = n) && chkAll (ck sc .ex) as ms
    | _, _ => false)
  | _ => false
def ckIt (ck : Ck) (sc : Scope) (sv : Bool) (e : Expr) (m : E) : Bool := match m with
  | .rng ms => ckWalk ck sc "range" 1 e ms || ckWalk ck sc "range" 2 e ms || ckWalk ck sc "range" 3 e ms
  | .zip ms => sv && ckWalk ck sc "zip" 2 e ms
  | .enm ms => sv && ckWalk ck sc "enumerate" 1 e ms
  | m => ck sc .ex e m
def ckCmp (ck : Ck) (sc : Scope) (a : Expr) (ops : List CmpOp) (bs : List Expr) (m : E) : Bool := match ops, bs, m with
  | [o], [b], .cmp cm ma mb => cmB o cm && noSet b && ck sc .ex a ma && ck sc .ex b mb
  | [o, o'], [b, c], .chain cm cm' ma mb mc => cmB o cm && cmB o' cm' && cm4 o && cm4 o' && noSet b && noSet c && ck sc .ex a ma && ck sc .ex b mb && ck sc .ex c mc
  | _, _, _ => false
def ckNot (ck : Ck) (sc : Scope) (k : Kd) (a : Expr) (m : E) : Bool := match m with
  | .not ma => ck sc k a ma
  | _ => false
def plainTs : Expr → Bool
  | .BoolOp .. => false
  | .UnaryOp .Not _ _ => false
  | .Compare .. => false
  | .IfExp .. => false
  | _ => true
def ckTs (ck : Ck) (sc : Scope) (e : Expr) (m : E) : Bool := match e with
  | .BoolOp op vs _ => chkBool (ck sc .ts) op vs m
  | .UnaryOp .Not a _ => ckNot ck sc .ts a m
  | .Compare a ops bs _ => ckCmp ck sc a ops bs m
  | e => plainTs e && ck sc .ex e m
def ckName (G : Gs) (N : List Str) (sc : Scope) (x : Str) (m : E) : Bool := match m with
  | .var i => atB N i x && visB sc x && okName x
  | .glob _ d => glB sc x && okName x && (match d with
    | .fn f => G.fns.contains (x, f)
    | d => (match lookD x G.cons with
      | some d' => sameD d d'
      | none => false))
  | _ => false
def ckSeq (ck : Ck) (sc : Scope) (tup : Bool) (es : List Expr) (m : E) : Bool := match m with
  | .tup ms => tup && chkAll (ck sc .ex) es ms
  | .tupR ms => tup && chkAll (ck sc .ex) es ms
  | .list ms => !tup && chkAll (ck sc .ex) es ms
  | _ => false
def ckBin (ck : Ck) (sc : Scope) (a : Expr) (op : Operator) (b : Expr) (m : E) : Bool := match m with
  | .bin o ma mb => opB op o && ck sc .ex a ma && ck sc .ex b mb
  | _ => false
def ckNeg (ck : Ck) (sc : Scope) (a : Expr) (m : E) : Bool := match m with
  | .neg ma => ck sc .ex a ma
  | _ => false
def ckIte (ck : Ck) (sc : Scope) (t a b : Expr) (m : E) : Bool := match m with
  | .ite mt ma mb => ck sc .ts t mt && ck sc .ex a ma && ck sc .ex b mb
  | _ => false
def isRev (s : Expr) : Bool := match s with
  | .Slice none none (some (.UnaryOp .USub (.Constant (.int 1) _ _) _)) _ => true
  | _ => false
def ckSlc (ck : Ck) (sc : Scope) (s : Expr) (ml mh : List E) : Bool := match s with
  | .Slice lo hi none _ => chkOpt (ck sc .ex) lo ml && chkOpt (ck sc .ex) hi mh
  | _ => false
def ckSub (ck : Ck) (sc : Scope) (a s : Expr) (m : E) : Bool := match m with
  | .idx ma mb => noSlice s && ck sc .ex a ma && ck sc .ex s mb
  | .slc ma ml mh => ck sc .ex a ma && ckSlc ck sc s ml mh
  | .rev ma => isRev s && ck sc .ex a ma
  | _ => false
def ckLR (ck : Ck) (sc : Scope) (as : List Expr) (ms : List E) : Bool := match as, ms with
  | [.Call (.Name y _) [a] [] _], [ma] => y == ("range" : Str) && glB sc "list" && glB sc "range" && plainE a && ck sc .ex a ma
  | _, _ => false
def ckBi (ck : Ck) (sc : Scope) (x : Str) (as : List Expr) (b : Bi) (ms : List E) : Bool := match biX b with
  | some y => x == y && glB sc y && !as.isEmpty && chkAll (ck sc .ex) as ms
  | none => (match b with
    | .listRange => x == ("list" : Str) && ckLR ck sc as ms
    | _ => false)
def ckIsa (ck : Ck) (sc : Scope) (x : Str) (as : List Expr) (ma : E) (t : Ty) : Bool := match as with
  | [a, .Name y _] => x == ("isinstance" : Str) && glB sc "isinstance" && y == tyX t && glB sc (tyX t) && plainE a && ck sc .ex a ma
  | _ => false
def ckDictR (ck : Ck) (sc : Scope) (x : Str) (as : List Expr) (ma : E) : Bool := match as with
  | [a] => x == ("dict" : Str) && glB sc "dict" && plainE a && ck sc .ex a ma
  | _ => false
def ckGet (ck : Ck) (sc : Scope) (o : Expr) (at_ : Str) (apos cpos : Pos) (as : List Expr) (m : E) : Bool := match o, as, m with
  | .Name _ _, [e, f], .getd mo me mf => at_ == ("get" : Str) && apos.endLine == cpos.line && plainE e && plainE f && ck sc .ex o mo && ck sc .ex e me && ck sc .ex f mf
  | _, _, _ => false
def ckCall (G : Gs) (ck : Ck) (sc : Scope) (f : Expr) (as : List Expr) (kws : List Keyword) (cpos : Pos) (m : E) : Bool := match f, kws with
  | .Attribute o at_ apos, [] => ckGet ck sc o at_ apos cpos as m
  | .Name x _, [] => (match m with
    | .call f ms => glB sc x && okName x && G.fns.contains (x, f) && chkAll (ck sc .ex) as ms
    | .bi b ms => ckBi ck sc x as b ms
    | .isa ma t => ckIsa ck sc x as ma t
    | .dictR ma => ckDictR ck sc x as ma
    | _ => false)
  | _, _ => false
def ckIfs (ck : Ck) (sc : Scope) (ifs : List Expr) (ms : List E) : Bool := match ifs, ms with
  | [], [] => true
  | [c], [mc] => ck sc .ts c mc
  | _, _ => false
def sevT : Expr → Bool
  | .Tuple .. => true
  | _ => false
def ckLc (N : List Str) (n : Nat) (ck : Ck) (sc : Scope) (elt : Expr) (gens : List Comprehension) (scope : Scope) (m : E) : Bool := match gens, m with
  | [⟨tg, it, ifs, 0⟩], .lc melt vs t mit mifs => blkC N sc scope (ownOf N scope vs) && subB (tslots t) vs && noSet it && ck sc (.it (sevT tg)) it mit && chkTb N scope sc n tg t && ckIfs ck (relS scope sc) ifs mifs && ck (relS scope sc) .ex elt melt
  | _, _ => false
/-- a comprehension without tests -/
def asLc : E → Option (E × List Nat × T × E)
  | .lc a b c d [] => some (a, b, c, d)
  | _ => none
def asSet2 : E → Option E
  | .bi .setLen2 [x] => some x
  | _ => none
def asVar : E → Option Nat
  | .var i => some i
  | _ => none
def asTn : T → Option Nat
  | .name i => some i
  | _ => none
/-- two clauses without tests -/
def asGens : List Comprehension → Option (Expr × Expr × Expr × Expr)
  | [⟨a, b, [], 0⟩, ⟨c, d, [], 0⟩] => some (a, b, c, d)
  | _ => none
def ckS2b (N : List Str) (n : Nat) (ck : Ck) (sc scope : Scope) (elt tg it tg1 it1 : Expr) (melt : E) (vs1 : List Nat) (t1 : T) (v0 : Nat) (vs : List Nat) (mit : E) : Bool := blkC N sc scope (ownOf N scope vs) && subB [v0] vs && subB (tslots t1) vs1 && subB vs1 vs && noSet it && noSet it1 && ck sc (.it (sevT tg)) it mit && chkT N false (relS scope sc) n tg (.name v0) && ck (relS scope sc) (.it (sevT tg1)) it1 (.var v0) && chkT N false (relS scope sc) n tg1 t1 && ck (relS scope sc) .ex elt melt
def ckS2e (N : List Str) (n : Nat) (ck : Ck) (sc scope : Scope) (elt : Expr) (gens : List Comprehension) (m : E) : Bool := match asGens gens, asSet2 m with
  | some (tg, it, tg1, it1), some x => (match asLc x with
    | some (inner, vs, t, mit) => (match asLc inner, asTn t with
      | some (melt, vs1, t1, mv), some v0 => (match asVar mv with
        | some v1 => Nat.beq v0 v1 && ckS2b N n ck sc scope elt tg it tg1 it1 melt vs1 t1 v0 vs mit
        | none => false)
      | _, _ => false)
    | none => false)
  | _, _ => false
def ckS2 (N : List Str) (n : Nat) (ck : Ck) (sc : Scope) (f : Expr) (as : List Expr) (kws : List Keyword) (m : E) : Bool := match f, kws, as with
  | .Name x _, [], [.SetComp elt gens scope _] => x == ("len" : Str) && glB sc "len" && ckS2e N n ck sc scope elt gens m
  | _, _, _ => false
/-! ### objects -/
def obB (o : Expr) : Bool := match o with
  | .Name .. => true
  | .Constant .. => true
  | .Attribute .. => true
  | .Subscript .. => true
  | .Call (.Name _ _) (_ :: _) [] _ => true
  | _ => false
def ckMake (G : Gs) (ck : Ck) (sc : Scope) (e : Expr) (c f : Nat) (ms : List E) : Bool := match e with
  | .Call (.Name x _) (a :: as) [] _ => glB sc x && okName x && G.clss.contains (x, c, f) && chkAll (ck sc .ex) (a :: as) ms
  | _ => false
def obM (o : Expr) : Bool := match o with
  | .Name .. => true
  | .Call (.Name _ _) (_ :: _) [] _ => true
  | _ => false
def ckMth (G : Gs) (ck : Ck) (sc : Scope) (e : Expr) (c f : Nat) (mo : E) (ms : List E) : Bool := match e with
  | .Call (.Attribute o m apos) as [] cpos => obM o && apos.endLine == cpos.line && decide (as.length < 30) && G.mts.contains (m, c, f) && ck sc .ex o mo && chkAll (ck sc .ex) as ms
  | _ => false
def ckFld (G : Gs) (ck : Ck) (sc : Scope) (e : Expr) (mo : E) (g : Nat) : Bool := match e with
  | .Attribute o n _ => obB o && G.flds.contains (n, 0, g) && ck sc .ex o mo
  | _ => false
def ckSpc1 (G : Gs) (ck : Ck) (sc : Scope) (nm mn : Str) (e : Expr) (c f : Nat) (mo : E) (ms : List E) : Bool := match e, ms with
  | .Call (.Name x _) [o] [] _, [] => x == nm && glB sc nm && plainE o && G.mts.contains (mn, c, f) && ck sc .ex o mo
  | _, _ => false
def ckSpc2 (G : Gs) (ck : Ck) (sc : Scope) (e : Expr) (c f : Nat) (mo : E) (ms : List E) : Bool := match e, ms with
  | .Compare o [.Eq] [b] _, [mb] => noSet b && G.mts.contains (("__eq__" : Str), c, f) && ck sc .ex o mo && ck sc .ex b mb
  | _, _ => false
def ckSpc (G : Gs) (ck : Ck) (sc : Scope) (e : Expr) (k c f : Nat) (mo : E) (ms : List E) : Bool := match k with
  | 0 => ckSpc1 G ck sc "len" "__len__" e c f mo ms
  | 1 => ckSpc1 G ck sc "str" "__str__" e c f mo ms
  | 2 => ckSpc2 G ck sc e c f mo ms
  | _ => false
def ckIsc (G : Gs) (ck : Ck) (sc : Scope) (e : Expr) (ma : E) (c : Nat) : Bool := match e with
  | .Call (.Name x _) [a, .Name y _] [] _ => x == ("isinstance" : Str) && glB sc "isinstance" && glB sc y && okName y && plainE a && (G.clss.any fun p => p.1 == y && Nat.beq p.2.1 c) && ck sc .ex a ma
  | _ => false
def ckMk (ck : Ck) (sc : Scope) (e : Expr) (m : E) : Bool := match e, m with
  | .List es _, .list ms => chkAll (ck sc .ex) es ms
  | .Call (.Name x _) [a] [] _, .bi .list [ma] => x == ("list" : Str) && glB sc "list" && plainE a && ck sc .ex a ma
  | _, _ => false
def ckPop (ck : Ck) (sc : Scope) (e : Expr) (mo : E) : Bool := match e with
  | .Call (.Attribute o n apos) [] [] cpos => n == ("pop" : Str) && obB o && apos.endLine == cpos.line && ck sc .ex o mo
  | _ => false
def ckJoin (ck : Ck) (sc : Scope) (e : Expr) (mo me : E) : Bool := match e with
  | .Call (.Attribute o n apos) [a] [] cpos => n == ("join" : Str) && obB o && apos.endLine == cpos.line && plainE a && ck sc .ex o mo && ck sc .ex a me
  | _ => false
def ckSSet (ck : Ck) (sc : Scope) (e : Expr) (ma : E) : Bool := match e with
  | .Call (.Name x _) [.Call (.Name y _) [a] [] _] [] _ => x == ("sorted" : Str) && y == ("set" : Str) && glB sc "sorted" && glB sc "set" && plainE a && ck sc .ex a ma
  | _ => false
def ckLcL (N : List Str) (n : Nat) (ck : Ck) (sc : Scope) (e : Expr) (melt : E) (vs : List Nat) (t : T) (mit : E) (mifs : List E) : Bool := match e with
  | .ListComp elt gens scope _ => (match gens with
    | [⟨tg, it, ifs, 0⟩] => blkC N sc scope (ownOf N scope vs) && subB (tslots t) vs && noSet it && ck sc .ex it mit && chkTb N scope sc n tg t && ckIfs ck (relS scope sc) ifs mifs && ck (relS scope sc) .ex elt melt
    | _ => false)
  | _ => false
def ckOb (G : Gs) (N : List Str) (n : Nat) (ck : Ck) (sc : Scope) (e : Expr) (m : E) : Bool := match m with
  | .make c f ms => ckMake G ck sc e c f ms
  | .meth c f mo ms => ckMth G ck sc e c f mo ms
  | .fld mo g => ckFld G ck sc e mo g
  | .spc k c f mo ms => ckSpc G ck sc e k c f mo ms
  | .isc ma c => ckIsc G ck sc e ma c
  | .mk m' => ckMk ck sc e m'
  | .pop mo => ckPop ck sc e mo
  | .bi b ms => (match b, ms with
    | .join, [mo, me] => ckJoin ck sc e mo me
    | .sortedSet, [ma] => ckSSet ck sc e ma
    | _, _ => false)
  | .lcL melt vs t mit mifs => ckLcL N n ck sc e melt vs t mit mifs
  | _ => false
def ckEx (G : Gs) (N : List Str) (n : Nat) (ck : Ck) (sc : Scope) (e : Expr) (m : E) : Bool := match e with
  | .Constant c _ _ => (match m with
    | .con d => chkCon c d
    | _ => false)
  | .Name x _ => ckName G N sc x m
  | .Tuple es _ _ => ckSeq ck sc true es m
  | .List es _ => ckSeq ck sc false es m
  | .BinOp a op b _ => ckBin ck sc a op b m
  | .UnaryOp op a _ => (match op with
    | .USub => ckNeg ck sc a m
    | .Not => ckNot ck sc .ex a m
    | _ => false)
  | .Compare a ops bs _ => ckCmp ck sc a ops bs m
  | .BoolOp op vs _ => chkBool (ck sc .ex) op vs m
  | .IfExp t a b _ => ckIte ck sc t a b m
  | .Subscript a s _ => ckSub ck sc a s m
  | .Call f as kws p => ckCall G ck sc f as kws p m || ckS2 N n ck sc f as kws m
  | .ListComp elt gens scope _ => ckLc N n ck sc elt gens scope m
  | .Dict [] [] _ => (match m with
    | .newN => true
    | .dict0 => true
    | _ => false)
  | _ => false
def chk (G : Gs) (N : List Str) : Nat → Scope → Kd → Expr → E → Bool
  | 0, _, _, _, _ => false
  | n + 1, sc, k, e, m => (match k with
    | .it sv => isBad m || ckIt (chk G N n) sc sv e m
    | .ts => isBad m || ckTs (chk G N n) sc e m
    | .ex => isBad m || (ckEx G N n (chk G N n) sc e m || ckOb G N n (chk G N n) sc e m))
/-! ### where an error may leave -/
def ckBoolX (ck cx : Expr → E → Bool) (op : BoolOp) : List Expr → E → Bool
  | [], _ => false
  | e :: es, m => match es with
    | [] => cx e m
    | _ :: _ => (match op, m with
      | .And, .and ma mb => ck e ma && ckBoolX ck cx op es mb
      | .Or, .or ma mb => ck e ma && ckBoolX ck cx op es mb
      | _, _ => false)
def ckCallX (G : Gs) (ck : Ck) (sc : Scope) (e : Expr) (f : Nat) (ms : List E) : Bool := match e with
  | .Call (.Name x _) as [] _ => glB sc x && okName x && G.fns.contains (x, f) && chkAll (ck sc .ex) as ms
  | _ => false
def ckCallD (ck : Ck) (sc : Scope) (e : Expr) (mf : E) (ms : List E) : Bool := match e with
  | .Call (.Subscript a b p) (e1 :: es) [] _ => ck sc .ex (.Subscript a b p) mf && chkAll (ck sc .ex) (e1 :: es) ms
  | _ => false
def chkX (G : Gs) (ck : Ck) (sc : Scope) : Nat → Expr → E → Bool
  | 0, _, _ => false
  | n + 1, e, m => (match m with
    | .call f ms => ckCallX G ck sc e f ms
    | .calld mf ms => ckCallD ck sc e mf ms
    | .make c f ms => ckMake G ck sc e c f ms
    | .meth c f mo ms => ckMth G ck sc e c f mo ms
    | .ite mt ma mb => (match e with
      | .IfExp t a b _ => ck sc .ts t mt && chkX G ck sc n a ma && chkX G ck sc n b mb
      | _ => false)
    | .and _ _ => (match e with
      | .BoolOp op vs _ => ckBoolX (ck sc .ex) (chkX G ck sc n) op vs m
      | _ => false)
    | .or _ _ => (match e with
      | .BoolOp op vs _ => ckBoolX (ck sc .ex) (chkX G ck sc n) op vs m
      | _ => false)
    | m => calmE m && ck sc .ex e m)
end Mi

set_option Elab.async false
set_option linter.all false
set_option maxRecDepth 100000
set_option maxHeartbeats 2000000
/-! Mi11: what agrees does the same: expressions. -/
namespace Mi
open PySem PySem.Spec PyProof.Rows L2

def blts : List Str := ["len", "isinstance", "all", "any", "sum", "min", "max", "tuple", "list", "sorted", "str", "int", "bool", "range", "zip", "enumerate", "set", "dict", "ValueError"]
/-- an error class of the module -/
structure ErrAt (C : Ct) (X : Cx) (x : Str) (k : Nat) : Prop where
  mg : X.mg x = some (.ref (C.xa k))
  ex : PySem.W.excIn X.K (C.xa k) [.type "ValueError", .type "Exception", .type "BaseException", .type "object"] "ValueError.__new__" = true
  kp : PySem.W.keepIn X.K (.ref (C.xa k)) = true
  sb : PySem.W.subIn X.K (.ref (C.xa k)) (.type "BaseException") = some true
  ty : PySem.W.typeIn X.K (.ref (C.xa k)) = some (.type "type")
structure XOk (C : Ct) (F : Fns) (G : Gs) (N : List Str) (sc : Scope) (top : Bool) (X : Cx) : Prop where
  K : X.K = C.K
  calm : X.calm = true
  po : PassesOwn (model X.prog X.w) X.A X.env X.xe
  prg : X.prog = C.P
  wd : X.w = C.W
  nd : N.Nodup
  Ne : X.N = N
  se : X.env.scope = sc
  un : X.A.units + 65 < cLine
  blt : ∀ x ∈ blts, X.mg x = none
  fns : ∀ x f, (x, f) ∈ G.fns → FnAt C F X x f
  errs : ∀ x k, (x, k) ∈ G.errs → ErrAt C X x k
  con : ∀ x d, lookD x G.cons = some d → ∃ v u, X.mg x = some u ∧ RelV v u ∧ ∀ w, RV C w v d
  tp : top = true → ∀ x, X.fn x = true
  wh : top = true → G.wh = true → WhAt C X
  fno : ∀ f ds st, F.fn f ds st ≠ .bad → FnV C F X f
  cls : ∀ x c f, (x, c, f) ∈ G.clss → ClAt C F X x c f ∧ IsAt C X x c
  mts : ∀ m c f, (m, c, f) ∈ G.mts → MtAt C F X m c f
  fls : ∀ n c g, (n, c, g) ∈ G.flds → FdAt C X c g n
  one : ∀ a b, C.ca a = C.ca b
  eqs : ∀ c f, (("__eq__" : Str), c, f) ∈ G.mts → PySem.W.subIn X.K (.type "str") (.ref (C.ca c)) = some false
section
variable {C : Ct} {F : Fns} {G : Gs} {N : List Str} {sc : Scope} {top : Bool} {X : Cx} {md : Md}
theorem okName_debug {x : Str} (h : okName x = true) : (x == ("__debug__" : Str)) = false ∧ (x == ("__classdict__" : Str)) = false ∧ x ≠ "__name__" := by
  unfold okName at h
  obtain ⟨h, h3⟩ := and2 h
  obtain ⟨h1, h2⟩ := and2 h
  refine ⟨by simpa using h1, by simpa using h2, fun z => ?_⟩
  subst z
  simp at h3
theorem at_ok {N : List Str} {i : Nat} {x : Str} (h : atB N i x = true) : N[i]? = some x := by
  unfold atB at h
  cases q : N[i]? with
  | none => rw [q] at h; cases h
  | some y => rw [q] at h; rw [eq_of_beq h]
theorem vis_ok {x : Str} (h : visB sc x = true) : Vis sc x := by
  unfold visB at h
  cases q : sc.names.lookup x with
  | none => rw [q] at h; cases h
  | some k => rw [q] at h; cases k <;> first | exact .inl q | exact .inr (.inl q) | exact .inr (.inr q) | cases h
theorem gl_ok {x : Str} (o : XOk C F G N sc top X) (h : glB sc x = true) : Gl X x := by
  unfold glB at h
  show X.env.kindOf x = _
  unfold PySem.Env.kindOf
  rw [o.se]
  cases q : sc.names.lookup x with
  | none => rw [q] at h; cases h
  | some k => rw [q] at h; cases k <;> first | rfl | cases h
theorem loc_ok {x : Str} (o : XOk C F G N sc top X) (h : locB top sc x = true) : Loc X.env.scope x ∧ (X.fn x = true ∨ X.env.scope.names.lookup x = some .local) := by
  unfold locB at h
  rw [o.se]
  unfold L2.Loc
  cases q : sc.names.lookup x with
  | none => rw [q] at h; cases h
  | some k =>
    rw [q] at h
    cases k <;> first | exact ⟨.inl rfl, .inr rfl⟩ | exact ⟨.inr rfl, .inl (o.tp h x)⟩ | cases h
theorem noset_ok {e : Expr} (h : noSet e = true) (env : PySem.Env) (x : Value) : foldedSetIterable e env x = pure x := by
  cases e <;> first | rfl | cases h
theorem noset_marks {e : Expr} (h : noSet e = true) (op : CmpOp) : behindInMarks op e = false := by
  cases e <;> first | rfl | cases h
theorem con_ok {c : Const} {d : D} {j : Nat} {pos : Pos} (h : chkCon c d = true) : SE C F X md (.Constant c j pos) (.con d) := by
  cases c <;> cases d <;> first | cases h | skip
  · exact se_non
  · rename_i a b
    have : a = b := by simpa [chkCon] using h
    subst this
    exact se_bl
  · rename_i a b
    have : a = b := by simpa [chkCon] using h
    subst this
    exact se_int
  · rename_i a b
    have : a.cps.toList = b := by simpa [chkCon] using h
    subst this
    exact se_str
mutual
theorem same_ok : ∀ {d e : D}, sameD d e = true → d = e
  | .non, e, h => by cases e <;> first | rfl | cases h
  | .bl a, e, h => by
    cases e <;> first | cases h | skip
    rename_i b
    have : a = b := by simpa [sameD] using h
    rw [this]
  | .int a, e, h => by
    cases e <;> first | cases h | skip
    rename_i b
    have : a = b := by simpa [sameD] using h
    rw [this]
  | .str a, e, h => by
    cases e <;> first | cases h | skip
    rename_i b
    have : a = b := by simpa [sameD] using h
    rw [this]
  | .tup a, e, h => by
    cases e <;> first | cases h | skip
    rename_i b
    have : a = b := sames_ok (by simpa [sameD] using h)
    rw [this]
  | .lst _, e, h => by cases e <;> cases h
  | .dct _ _, e, h => by cases e <;> cases h
  | .loc _, e, h => by cases e <;> cases h
  | .fn _, e, h => by cases e <;> cases h
  | .exc _, e, h => by cases e <;> cases h
  | .scr _, e, h => by cases e <;> cases h
theorem sames_ok : ∀ {d e : List D}, sameDs d e = true → d = e
  | [], [], _ => rfl
  | [], _ :: _, h => by cases h
  | _ :: _, [], h => by cases h
  | x :: xs, y :: ys, h => by
    rw [sameDs] at h
    obtain ⟨h1, h2⟩ := and2 h
    rw [same_ok h1, sames_ok h2]
end
theorem chkAll_ok {ck : Expr → E → Bool} (hck : ∀ e m, ck e m = true → SE C F X md e m) : ∀ {es : List Expr} {ms : List E}, chkAll ck es ms = true → SA C F X md es ms ∧ es.all plainE = true ∧ es.length = ms.length
  | [], [], _ => ⟨sa_nil, rfl, rfl⟩
  | [], _ :: _, h => by cases h
  | _ :: _, [], h => by cases h
  | e :: es, m :: ms, h => by
    unfold chkAll at h
    obtain ⟨h, h3⟩ := and2 h
    obtain ⟨h1, h2⟩ := and2 h
    obtain ⟨a1, a2, a3⟩ := chkAll_ok hck h3
    exact ⟨sa_cons (hck e m h2) a1 h1, by rw [List.all_cons, h1, a2]; rfl, by simp [a3]⟩
theorem chkT_ok (o : XOk C F G N sc top X) : ∀ (n : Nat) {e : Expr} {t : T}, chkT N top sc n e t = true → SG C X e t
  | 0, _, _, h => by cases h
  | n + 1, e, t, h => by
    unfold chkT at h
    cases e <;> first | cases h | skip
    · rename_i x p
      cases t <;> first | cases h | skip
      rename_i i
      obtain ⟨h1, h2⟩ := and2 h
      obtain ⟨l1, l2⟩ := loc_ok o h2
      exact sg_name (by rw [o.Ne]; exact o.nd) (by rw [o.Ne]; exact at_ok h1) l1 l2
    · rename_i es k p
      cases t <;> first | cases h | skip
      rename_i ts
      obtain ⟨h1, h2⟩ := and2 h
      have hl : es.length = ts.length := by simpa using h1
      have key : ∀ {es : List Expr} {ts : List T}, es.length = ts.length → ((es.zip ts).all fun p => plainT p.1 && chkT N top sc n p.1 p.2) = true → SGs C X es ts ∧ es.all plainT = true := by
        intro es
        induction es with
        | nil => intro ts hl _; cases ts with
          | nil => exact ⟨sgs_nil, rfl⟩
          | cons _ _ => simp at hl
        | cons e es ih =>
          intro ts hl hh
          cases ts with
          | nil => simp at hl
          | cons t ts =>
            rw [List.zip_cons_cons, List.all_cons] at hh
            obtain ⟨a, b⟩ := and2 hh
            obtain ⟨a1, a2⟩ := and2 a
            obtain ⟨i1, i2⟩ := ih (by simpa using hl) b
            exact ⟨sgs_cons (chkT_ok o n a2) i1 a1, by rw [List.all_cons, a1, i2]; rfl⟩
      obtain ⟨k1, k2⟩ := key hl h2
      exact sg_tup o.K o.calm k1 k2 hl
/-- the block of a comprehension -/
theorem XOk.blk (o : XOk C F G N sc top X) {scope : Scope} (s : Shared) (H : Hp) (Ca : Addr) (cl : List (Str × Addr)) (fp : List Addr) : XOk C F G N (relS scope sc) false (X.blk s H scope (compEnvC scope cl Ca X.env) fp) :=
  ⟨o.K, o.calm, PassesOwn.never, o.prg, o.wd, o.nd, o.Ne, by show (compEnvC scope cl Ca X.env).scope = _; rw [← o.se]; rfl, o.un, o.blt, fun x f h => let q := o.fns x f h; ⟨q.mg, q.kp, q.ok⟩, fun x k h => let q := o.errs x k h; ⟨q.mg, q.ex, q.kp, q.sb, q.ty⟩, o.con, (fun h => by cases h), (fun h => by cases h), fun f ds st h => let q := o.fno f ds st h; ⟨q.kp, q.ok⟩, fun x c f h => let ⟨q, r⟩ := o.cls x c f h; ⟨⟨q.mg, q.mks, ⟨q.fk.ok⟩⟩, ⟨r.mg, r.cl, r.ha, r.hn, r.ht, r.hm, r.yes, r.no⟩⟩, fun m c f h => let q := o.mts m c f h; ⟨q.cl, q.me, ⟨q.fk.ok⟩, q.nf⟩, fun n c g h => let q := o.fls n c g h; ⟨q.cl, q.no, q.nm, q.lt, q.inj⟩, o.one, o.eqs⟩
theorem chkTb_ok (o : XOk C F G N sc top X) {scope : Scope} {n : Nat} {tg : Expr} {t : T} (s : Shared) (H : Hp) (Ca : Addr) (cl : List (Str × Addr)) (fp : List Addr) (h : chkTb N scope sc n tg t = true) : SG C (X.blk s H scope (compEnvC scope cl Ca X.env) fp) tg t := by
  have q := o.blk (scope := scope) s H Ca cl fp
  unfold chkTb at h
  rcases Bool.or_eq_true_iff.mp h with h | h
  · exact chkT_ok q n h
  · cases tg <;> first | cases h | skip
    cases t <;> first | cases h | skip
    rename_i x p i _
    change (atB N i x && (scope.names.lookup x == some .cell) && locB true (relS scope sc) x) = true at h
    obtain ⟨h, h3⟩ := and2 h
    obtain ⟨h1, h2⟩ := and2 h
    refine sg_name (by rw [q.Ne]; exact q.nd) (by rw [q.Ne]; exact at_ok h1) ?_ (.inl h2)
    rw [q.se]
    unfold locB at h3
    unfold L2.Loc
    cases z : (relS scope sc).names.lookup x with
    | none => rw [z] at h3; cases h3
    | some k => rw [z] at h3; cases k <;> first | exact .inl rfl | exact .inr rfl | cases h3
/-- within a try's body -/
theorem XOk.tr (o : XOk C F G N sc top X) (pn : List (Addr × Obj)) (xe : Value → Shared → Prop) (po : PassesOwn (model X.prog X.w) X.A X.env xe) : XOk C F G N sc top (X.tr pn xe) :=
  ⟨o.K, o.calm, po, o.prg, o.wd, o.nd, o.Ne, o.se, o.un, o.blt, fun x f h => let q := o.fns x f h; ⟨q.mg, q.kp, q.ok⟩, fun x k h => let q := o.errs x k h; ⟨q.mg, q.ex, q.kp, q.sb, q.ty⟩, o.con, o.tp, fun h1 h2 => let q := o.wh h1 h2; ⟨q.st, q.fr, q.ask, q.fn, q.rm⟩, fun f ds st h => let q := o.fno f ds st h; ⟨q.kp, q.ok⟩, fun x c f h => let ⟨q, r⟩ := o.cls x c f h; ⟨⟨q.mg, q.mks, ⟨q.fk.ok⟩⟩, ⟨r.mg, r.cl, r.ha, r.hn, r.ht, r.hm, r.yes, r.no⟩⟩, fun m c f h => let q := o.mts m c f h; ⟨q.cl, q.me, ⟨q.fk.ok⟩, q.nf⟩, fun n c g h => let q := o.fls n c g h; ⟨q.cl, q.no, q.nm, q.lt, q.inj⟩, o.one, o.eqs⟩
def cmps (X : Cx) : CmpOp → List R2
  | .Eq => [rEqD X.K]
  | .NotEq => [rNeD X.K]
  | .Lt => [rI0 fun i j => .bl (decide (i < j))]
  | .LtE => [rI0 fun i j => .bl (decide (i ≤ j))]
  | .Gt => [rI0 fun i j => .bl (decide (j < i))]
  | .GtE => [rI0 fun i j => .bl (decide (j ≤ i))]
  | .Is => [fun x y H Q => y = .non ∧ Q (.bl (decide (x = .non))) H, rIsB]
  | .IsNot => [fun x y H Q => y = .non ∧ Q (.bl (!decide (x = .non))) H, rNotB]
  | .In => [rInD X.K, fun x y H Q => ∃ (c : Nat) (z : Str), x = .str ⟨#[c]⟩ ∧ y = .str z ∧ Q (.bl (decide (c ∈ z.cps.toList))) H, rDIn, rInN X]
  | .NotIn => [rNotInD X.K, fun x y H Q => ∃ (c : Nat) (z : Str), x = .str ⟨#[c]⟩ ∧ y = .str z ∧ Q (.bl (!decide (c ∈ z.cps.toList))) H, rDNotIn, rNotInN X]
theorem cm_ok (o : XOk C F G N sc top X) {op : CmpOp} {cm : Cm} (h : cmB op cm = true) : CmpOk C X op cm (cmps X op) := by
  have hu := o.un
  cases op <;> cases cm <;> first | cases h | skip
  · exact ok_eq o.K (by omega)
  · exact ok_ne o.K (by omega)
  · exact ok_lt
  · exact ok_le
  · exact ok_gt
  · exact ok_ge
  · exact ok_is
  · exact ok_isnt
  · exact ok_in o.prg o.wd o.K hu
  · exact ok_nin o.prg o.wd o.K hu
/-- one of the four orders of ints -/
def ordF : CmpOp → Int → Int → Bool
  | .Lt => fun i j => decide (i < j)
  | .LtE => fun i j => decide (i ≤ j)
  | .Gt => fun i j => decide (j < i)
  | .GtE => fun i j => decide (j ≤ i)
  | _ => fun _ _ => false
theorem ord_ok {op : CmpOp} {cm : Cm} (h : cmB op cm = true) (h4 : cm4 op = true) : OpR X (compareOp op) (rI0 fun i j => .bl (ordF op i j)) ∧ (∀ i j, cmp cm (.int i) (.int j) = some (.bl (ordF op i j))) ∧ (cm = .lt ∨ cm = .le ∨ cm = .gt ∨ cm = .ge) := by
  cases op <;> first | cases h4 | skip
  all_goals (cases cm <;> first | cases h | skip)
  · exact ⟨op_lt, fun _ _ => rfl, .inl rfl⟩
  · exact ⟨op_le, fun _ _ => rfl, .inr (.inl rfl)⟩
  · exact ⟨op_gt, fun _ _ => rfl, .inr (.inr (.inl rfl))⟩
  · exact ⟨op_ge, fun _ _ => rfl, .inr (.inr (.inr rfl))⟩
theorem chain_se {op op' : CmpOp} {cm cm' : Cm} {a b c : Expr} {ma mb mc : E} {pos : Pos} (h1 : cmB op cm = true) (h1' : cmB op' cm' = true) (h4 : cm4 op = true) (h4' : cm4 op' = true) (hm : lastMarks [op, op'] [b, c] = false) (ha : SE C F X .read a ma) (hb : SE C F X .read b mb) (hc : SE C F X .read c mc) :
    SE C F X md (.Compare a [op, op'] [b, c] pos) (.chain cm cm' ma mb mc) ∧ ST C F X (.Compare a [op, op'] [b, c] pos) (.chain cm cm' ma mb mc) := by
  obtain ⟨o1, e1, c1⟩ := ord_ok (X := X) h1 h4
  obtain ⟨o2, e2, c2⟩ := ord_ok (X := X) h1' h4'
  refine ⟨fun w env σ st d st' Q ok er sr e h => ?_, fun w env σ st d st' Q ok er sr e h _ => ?_⟩
  · exact tE_of (pe_chain o1 o2 pe_tE pe_tE pe_tE hm) (chain_go (op' := op') e1 e2 c1 c2 ha hb hc ok er sr e fun k w' x s ed => h _ w' x s (by rw [ed]; exact (RV.bl k).rm md))
  · exact tT_of (pt_chain o1 o2 pe_tE pe_tE pe_tE hm) (chain_go (op' := op') (md := .read) (Q := fun x H' => ∃ k, x = .bl k ∧ Q k H') e1 e2 c1 c2 ha hb hc ok er sr e fun k w' x s ed => ⟨k, rfl, h k w' x s ed⟩)
theorem plain_true {e : Expr} (h : (match e with | .BoolOp .. => false | .UnaryOp .Not _ _ => false | .Compare .. => false | .IfExp .. => false | _ => true) = true) (env : PySem.Env) : ∀ whole, isTrue e env whole = (do let v ← whole; standAt e.pos; holding [v] (truthy v)) := by
  intro whole
  cases e <;> first | rfl | cases h | skip
  rename_i op a p
  cases op <;> first | rfl | cases h
end
end Mi

set_option Elab.async false
set_option linter.all false
set_option maxRecDepth 100000
set_option maxHeartbeats 4000000
/-! Mi12: what agrees does the same: expressions, the theorem. -/
namespace Mi
open PySem PySem.Spec PyProof.Rows L2
section
variable {C : Ct} {F : Fns} {G : Gs} {N : List Str}
structure Ok3 (C : Ct) (F : Fns) (sc : Scope) (X : Cx) (ck : Ck) : Prop where
  ex : ∀ e m, ck sc .ex e m = true → ∀ md, SE C F X md e m
  ts : ∀ e m, ck sc .ts e m = true → ST C F X e m
  it : ∀ sv tg e m, ck sc (.it sv) e m = true → (sv = true → ∃ es k p, tg = .Tuple es k p) → ∀ md, (md = .iter ∨ md = .walk) → SI C F X md tg e m
  lo : ∀ sv e m, ck sc (.it sv) e m = true → ∀ env st n st', ev F .walk m env st = .ok (.loc n) st' → SE C F X .walk e m
theorem bool_se {sc : Scope} {X : Cx} {ck : Ck} (ih : Ok3 C F sc X ck) {op : BoolOp} {pos : Pos} : ∀ {vs : List Expr} {m : E}, chkBool (ck sc .ex) op vs m = true → ∀ md, SE C F X md (.BoolOp op vs pos) m
  | [], _, h, _ => by cases h
  | [e], m, h, md => se_and1 (rest := []) (ih.ex e m h md)
  | e :: e' :: es, m, h, md => by
    unfold chkBool at h
    cases op with
    | And =>
      cases m <;> first | cases h | skip
      obtain ⟨h1, h2⟩ := and2 h
      exact se_and (ih.ex _ _ h1 .read) (bool_se ih h2 .kept)
    | Or =>
      cases m <;> first | cases h | skip
      obtain ⟨h1, h2⟩ := and2 h
      exact se_or (ih.ex _ _ h1 .read) (bool_se ih h2 .kept)
theorem bool_sw {sc : Scope} {X : Cx} {ck : Ck} (ih : Ok3 C F sc X ck) {op : BoolOp} {pos : Pos} : ∀ {vs : List Expr} {m : E}, chkBool (ck sc .ts) op vs m = true → SW C F X (.BoolOp op vs pos) m
  | [], _, h => by cases h
  | [e], m, h => sw_one (ih.ts e m h)
  | e :: e' :: es, m, h => by
    unfold chkBool at h
    cases op with
    | And =>
      cases m <;> first | cases h | skip
      obtain ⟨h1, h2⟩ := and2 h
      exact sw_and (ih.ts _ _ h1) (bool_sw ih h2)
    | Or =>
      cases m <;> first | cases h | skip
      obtain ⟨h1, h2⟩ := and2 h
      exact sw_or (ih.ts _ _ h1) (bool_sw ih h2)
theorem bin_se {sc : Scope} {top : Bool} {X : Cx} (o : XOk C F G N sc top X) {op : Operator} {op' : Op} {a b : Expr} {ma mb : E} {pos : Pos} {md : Md} (h : opB op op' = true) (ha : SE C F X .read a ma) (hb : SE C F X .read b mb) : SE C F X md (.BinOp a op b pos) (.bin op' ma mb) := by
  cases op <;> cases op' <;> first | cases h | skip
  · exact se_add o.K ha hb
  · exact se_sub ha hb
  · exact se_mul o.K ha hb
  · exact se_mod ha hb
  · exact se_pow ha hb
  · exact se_fdiv ha hb
theorem str_eq_of {x y : Str} (h : (x == y) = true) : x = y := eq_of_beq h
theorem opt_so {sc : Scope} {X : Cx} {ck : Ck} (ih : Ok3 C F sc X ck) {e : Option Expr} {ms : List E} (h : chkOpt (ck sc .ex) e ms = true) : SO C F X e ms := by
  match e, ms, h with
  | none, [], _ => exact so_none
  | some e, [m], h => exact so_some (ih.ex e m h .kept)
theorem bi_se {sc : Scope} {top : Bool} {X : Cx} (o : XOk C F G N sc top X) {b : Bi} {x : Str} {e : Expr} {es : List Expr} {ms : List E} {p pos : Pos} {md : Md} (hb : biX b = some x) (hg : glB sc x = true) (ha : SA C F X .read (e :: es) ms) (hp : (e :: es).all plainE = true) : SE C F X md (.Call (.Name x p) (e :: es) [] pos) (.bi b ms) := by
  cases b <;> first | cases hb | skip
  · exact se_biB (bi_len o.K) (gl_ok o hg) (o.blt _ (by decide +kernel)) (by decide +kernel) (by decide) (by decide) ha hp
  · exact se_biB (bi_all o.calm) (gl_ok o hg) (o.blt _ (by decide +kernel)) (by decide +kernel) (by decide) (by decide) ha hp
  · exact se_biB (bi_any o.calm) (gl_ok o hg) (o.blt _ (by decide +kernel)) (by decide +kernel) (by decide) (by decide) ha hp
  · exact se_biB (bi_sum o.K o.calm) (gl_ok o hg) (o.blt _ (by decide +kernel)) (by decide +kernel) (by decide) (by decide) ha hp
  · exact se_biB (bi_min o.calm) (gl_ok o hg) (o.blt _ (by decide +kernel)) (by decide +kernel) (by decide) (by decide) ha hp
  · exact se_biB (bi_max o.K o.calm) (gl_ok o hg) (o.blt _ (by decide +kernel)) (by decide +kernel) (by decide) (by decide) ha hp
  · exact se_biT (bi_tuple o.K) (gl_ok o hg) (o.blt _ (by decide +kernel)) (by decide +kernel) (by decide) (by decide) ha hp
  · exact se_biT (bi_list o.prg o.wd o.K o.calm) (gl_ok o hg) (o.blt _ (by decide +kernel)) (by decide +kernel) (by decide) (by decide) ha hp
  · exact se_biB (bi_sorted o.K o.un) (gl_ok o hg) (o.blt _ (by decide +kernel)) (by decide +kernel) (by decide) (by decide) ha hp
  · exact se_biT bi_str (gl_ok o hg) (o.blt _ (by decide +kernel)) (by decide +kernel) (by decide) (by decide) ha hp
  · exact se_biT bi_int (gl_ok o hg) (o.blt _ (by decide +kernel)) (by decide +kernel) (by decide) (by decide) ha hp
  · exact se_biT bi_tupleR (gl_ok o hg) (o.blt _ (by decide +kernel)) (by decide +kernel) (by decide) (by decide) ha hp
theorem isa_se {sc : Scope} {top : Bool} {X : Cx} (o : XOk C F G N sc top X) {t : Ty} {a : Expr} {ma : E} {p p' pos : Pos} {md : Md} (h1 : glB sc "isinstance" = true) (h2 : glB sc (tyX t) = true) (ha : SE C F X .read a ma) (hp : plainE a = true) : SE C F X md (.Call (.Name "isinstance" p) [a, .Name (tyX t) p'] [] pos) (.isa ma t) := by
  cases t
  · exact se_isa o.K (gl_ok o h1) (o.blt _ (by decide +kernel)) (gl_ok o h2) (o.blt _ (by decide +kernel)) (by decide +kernel) (by decide) (by decide) ha hp
  · exact se_isa o.K (gl_ok o h1) (o.blt _ (by decide +kernel)) (gl_ok o h2) (o.blt _ (by decide +kernel)) (by decide +kernel) (by decide) (by decide) ha hp
  · exact se_isa o.K (gl_ok o h1) (o.blt _ (by decide +kernel)) (gl_ok o h2) (o.blt _ (by decide +kernel)) (by decide +kernel) (by decide) (by decide) ha hp
  · exact se_isa o.K (gl_ok o h1) (o.blt _ (by decide +kernel)) (gl_ok o h2) (o.blt _ (by decide +kernel)) (by decide +kernel) (by decide) (by decide) ha hp
theorem lc_parts {sc scope : Scope} {elt tg it : Expr} {ifs : List Expr} {melt mit : E} {mifs : List E} {vs : List Nat} {t : T} {n : Nat} {top : Bool} {X : Cx} {ck : Ck} (o : XOk C F G N sc top X) (ih : ∀ (sc : Scope) (top : Bool) (X : Cx), XOk C F G N sc top X → Ok3 C F sc X ck)
    (h : ckLc N n ck sc elt [⟨tg, it, ifs, 0⟩] scope (.lc melt vs t mit mifs) = true) :
    BlkOk X.N X.env.scope scope (ownOf N scope vs) ∧ SI C F X .iter tg it mit ∧ (Blks X scope fun Y => SG C Y tg t) ∧ (Blks X scope fun Y => STs C F Y ifs mifs) ∧ (Blks X scope fun Y => SE C F Y .kept elt melt) ∧ (∀ j ∈ tslots t, j ∈ (ownOf N scope vs).map (·.2)) ∧ (∀ x, foldedSetIterable it X.env x = pure x) ∧ (ownOf N scope vs).map (·.2) = vs := by
  unfold ckLc at h
  obtain ⟨h, h7⟩ := and2 h
  obtain ⟨h, h6⟩ := and2 h
  obtain ⟨h, h5⟩ := and2 h
  obtain ⟨h, h4⟩ := and2 h
  obtain ⟨h, h3⟩ := and2 h
  obtain ⟨h1, h2⟩ := and2 h
  have ev : (ownOf N scope vs).map (·.2) = vs := by
    unfold ownOf
    rw [List.map_map]
    exact List.map_id vs
  refine ⟨by rw [o.Ne, o.se]; exact blkOk_by h1, (ih sc top X o).it _ tg it mit h4 (fun z => ?_) .iter (.inl rfl), fun s H Ca cl fp => chkTb_ok o s H Ca cl fp h5, fun s H Ca cl fp => ?_, fun s H Ca cl fp => (ih _ _ _ (o.blk s H Ca cl fp)).ex elt melt h7 .kept, fun j hj => ?_, fun x => noset_ok h3 _ x, ev⟩
  · cases tg <;> first | exact ⟨_, _, _, rfl⟩ | cases z
  · unfold ckIfs at h6
    match ifs, mifs, h6 with
    | [], [], _ => exact .inl ⟨rfl, rfl⟩
    | [c], [mc], h6 => exact .inr ⟨c, mc, rfl, rfl, (ih _ _ _ (o.blk s H Ca cl fp)).ts c mc h6⟩
  · rw [ev]
    unfold subB at h2
    have := List.all_eq_true.mp h2 j hj
    simpa using this
theorem lc_form {N : List Str} {n : Nat} {ck : Ck} {sc : Scope} {elt : Expr} {gens : List Comprehension} {scope : Scope} {m : E} (h : ckLc N n ck sc elt gens scope m = true) : ∃ tg it ifs melt vs t mit mifs, gens = [⟨tg, it, ifs, 0⟩] ∧ m = .lc melt vs t mit mifs := by
  unfold ckLc at h
  split at h <;> (try contradiction)
  exact ⟨_, _, _, _, _, _, _, _, rfl, rfl⟩
section
variable {sc : Scope} {top : Bool} {X : Cx} {ck : Ck} {md : Md} {pos : Pos}
theorem all_ok (ih : Ok3 C F sc X ck) {es : List Expr} {ms : List E} (md : Md) (h : chkAll (ck sc .ex) es ms = true) : SA C F X md es ms ∧ es.all plainE = true ∧ es.length = ms.length := chkAll_ok (fun e m h => ih.ex e m h md) h
theorem walk_form {name : Str} {n : Nat} {e : Expr} {ms : List E} (h : ckWalk ck sc name n e ms = true) : ∃ p as pos, e = .Call (.Name name p) as [] pos ∧ glB sc name = true ∧ as.length = n ∧ chkAll (ck sc .ex) as ms = true := by
  unfold ckWalk at h
  cases e <;> first | cases h | skip
  rename_i f as kws pos
  cases f <;> first | cases h | skip
  rename_i x p
  cases kws <;> first | cases h | skip
  obtain ⟨h, h4⟩ := and2 h
  obtain ⟨h, h3⟩ := and2 h
  obtain ⟨h1, h2⟩ := and2 h
  have e1 := str_eq_of h1
  subst e1
  exact ⟨p, as, pos, rfl, h2, by simpa using h3, h4⟩
theorem ckIt_ok (o : XOk C F G N sc top X) (ih : Ok3 C F sc X ck) {sv : Bool} {tg e : Expr} {m : E} (h : ckIt ck sc sv e m = true) (hsv : sv = true → ∃ es k p, tg = .Tuple es k p) (md : Md) (hmd : md = .iter ∨ md = .walk) : SI C F X md tg e m := by
  unfold ckIt at h
  cases m
  case rng ms =>
    simp only [Bool.or_eq_true] at h
    rcases h with (h | h) | h
    · obtain ⟨p, as, pos, rfl, h2, hl, ha⟩ := walk_form h
      obtain ⟨a1, a2, a3⟩ := all_ok ih .kept ha
      match as, ms, hl, a1, a2, a3 with
      | [a], [ma], _, a1, a2, _ => exact si_rng1 hmd (gl_ok o h2) (o.blt _ (by decide +kernel)) a1 (by simpa using a2)
    · obtain ⟨p, as, pos, rfl, h2, hl, ha⟩ := walk_form h
      obtain ⟨a1, a2, a3⟩ := all_ok ih .kept ha
      match as, ms, hl, a1, a2, a3 with
      | [a, b], [ma, mb], _, a1, a2, _ =>
        rw [List.all_cons] at a2
        obtain ⟨c1, c2⟩ := and2 a2
        exact si_rng2 hmd (gl_ok o h2) (o.blt _ (by decide +kernel)) a1 c1 (by simpa using c2)
    · obtain ⟨p, as, pos, rfl, h2, hl, ha⟩ := walk_form h
      obtain ⟨a1, a2, a3⟩ := all_ok ih .kept ha
      match as, ms, hl, a1, a2, a3 with
      | [a, b, c], [ma, mb, mc], _, a1, a2, _ => exact si_rng3 hmd (gl_ok o h2) (o.blt _ (by decide +kernel)) a1 a2
  case zip ms =>
    obtain ⟨h1, h⟩ := and2 h
    obtain ⟨p, as, pos, rfl, h2, hl, ha⟩ := walk_form h
    obtain ⟨a1, a2, a3⟩ := all_ok ih .kept ha
    obtain ⟨es, k, p, rfl⟩ := hsv h1
    match as, ms, hl, a1, a2, a3 with
    | [a, b], [ma, mb], _, a1, a2, _ => exact si_zip o.K hmd (gl_ok o h2) (o.blt _ (by decide +kernel)) a1 a2
  case enm ms =>
    obtain ⟨h1, h⟩ := and2 h
    obtain ⟨p, as, pos, rfl, h2, hl, ha⟩ := walk_form h
    obtain ⟨a1, a2, a3⟩ := all_ok ih .kept ha
    obtain ⟨es, k, p, rfl⟩ := hsv h1
    match as, ms, hl, a1, a2, a3 with
    | [a], [ma], _, a1, a2, _ => exact si_enm o.K hmd (gl_ok o h2) (o.blt _ (by decide +kernel)) a1 (by simpa using a2)
  all_goals exact si_seq o.K hmd (ih.ex _ _ h md)
theorem ckCmp_ok (o : XOk C F G N sc top X) (ih : Ok3 C F sc X ck) {a : Expr} {ops : List CmpOp} {bs : List Expr} {m : E} (h : ckCmp ck sc a ops bs m = true) : (∀ md, SE C F X md (.Compare a ops bs pos) m) ∧ ST C F X (.Compare a ops bs pos) m := by
  unfold ckCmp at h
  split at h <;> (try contradiction)
  · obtain ⟨h, h4⟩ := and2 h
    obtain ⟨h, h3⟩ := and2 h
    obtain ⟨h1, h2⟩ := and2 h
    exact ⟨fun md => se_cmp (cm_ok o h1) (ih.ex _ _ h3 .read) (ih.ex _ _ h4 .read) (noset_marks h2 _), st_cmp (cm_ok o h1) (ih.ex _ _ h3 .read) (ih.ex _ _ h4 .read) (noset_marks h2 _)⟩
  · obtain ⟨h, h9⟩ := and2 h
    obtain ⟨h, h8⟩ := and2 h
    obtain ⟨h, h7⟩ := and2 h
    obtain ⟨h, h6⟩ := and2 h
    obtain ⟨h, h5⟩ := and2 h
    obtain ⟨h, h4⟩ := and2 h
    obtain ⟨h, h3⟩ := and2 h
    obtain ⟨h1, h2⟩ := and2 h
    exact ⟨fun md => (chain_se h1 h2 h3 h4 (noset_marks h6 _) (ih.ex _ _ h7 .read) (ih.ex _ _ h8 .read) (ih.ex _ _ h9 .read)).1, (chain_se (md := .read) h1 h2 h3 h4 (noset_marks h6 _) (ih.ex _ _ h7 .read) (ih.ex _ _ h8 .read) (ih.ex _ _ h9 .read)).2⟩
theorem ckTs_ok (o : XOk C F G N sc top X) (ih : Ok3 C F sc X ck) {e : Expr} {m : E} (h : ckTs ck sc e m = true) : ST C F X e m := by
  unfold ckTs at h
  split at h
  · exact (bool_sw ih h).st
  · unfold ckNot at h
    split at h <;> (try contradiction)
    exact st_not (ih.ts _ _ h)
  · exact (ckCmp_ok o ih h).2
  · obtain ⟨h1, h2⟩ := and2 h
    exact st_val (ih.ex _ _ h2 .read) (plain_true (by
      unfold plainTs at h1
      split at h1 <;> first | cases h1 | skip
      first | rfl | (split <;> first | rfl | (rename_i hh; exact absurd rfl (hh _ _ _)) | contradiction)) _)
theorem ckName_ok (o : XOk C F G N sc top X) {x : Str} {m : E} (h : ckName G N sc x m = true) : SE C F X md (.Name x pos) m := by
  unfold ckName at h
  split at h <;> (try contradiction)
  · obtain ⟨h, h3⟩ := and2 h
    obtain ⟨h1, h2⟩ := and2 h
    exact se_var (by rw [o.Ne]; exact at_ok h1) (by rw [o.se]; exact vis_ok h2) (okName_debug h3).1 (okName_debug h3).2.1
  · rename_i cs d
    obtain ⟨h, h3⟩ := and2 h
    obtain ⟨h1, h2⟩ := and2 h
    split at h3
    · rename_i f
      have hf := o.fns x f (by simpa using h3)
      exact se_glob (v := .ref (C.fa f)) (gl_ok o h1) hf.mg rfl (fun w => .fn f) (okName_debug h2).1
    · split at h3 <;> (try contradiction)
      rename_i d' ed
      have := same_ok h3
      subst this
      obtain ⟨v, u, c1, c2, c3⟩ := o.con x d ed
      exact se_glob (gl_ok o h1) c1 c2 c3 (okName_debug h2).1
theorem ckSub_ok (o : XOk C F G N sc top X) (ih : Ok3 C F sc X ck) {a s : Expr} {m : E} (h : ckSub ck sc a s m = true) : SE C F X md (.Subscript a s pos) m := by
  unfold ckSub at h
  split at h <;> (try contradiction)
  · obtain ⟨h, h3⟩ := and2 h
    obtain ⟨h1, h2⟩ := and2 h
    exact se_idx o.prg o.wd o.un o.K (ih.ex _ _ h2 .read) (ih.ex _ _ h3 .kept) h1
  · obtain ⟨h1, h2⟩ := and2 h
    unfold ckSlc at h2
    split at h2 <;> (try contradiction)
    obtain ⟨h2, h3⟩ := and2 h2
    exact se_slc o.K (ih.ex _ _ h1 .read) (opt_so ih h2) (opt_so ih h3)
  · obtain ⟨h1, h2⟩ := and2 h
    unfold isRev at h1
    split at h1 <;> (try contradiction)
    exact se_rev o.K (ih.ex _ _ h2 .read)
theorem ckCall_ok (o : XOk C F G N sc top X) (ih : Ok3 C F sc X ck) {f : Expr} {as : List Expr} {kws : List Keyword} {m : E} (h : ckCall G ck sc f as kws pos m = true) : SE C F X md (.Call f as kws pos) m := by
  unfold ckCall at h
  cases f <;> first | cases h | skip
  case Attribute ob at_ apos =>
    cases kws <;> first | cases h | skip
    simp only at h
    unfold ckGet at h
    split at h <;> (try contradiction)
    rename_i x px e f mo me mf
    obtain ⟨h, h7⟩ := and2 h
    obtain ⟨h, h6⟩ := and2 h
    obtain ⟨h, h5⟩ := and2 h
    obtain ⟨h, h4⟩ := and2 h
    obtain ⟨h, h3⟩ := and2 h
    obtain ⟨h1, h2⟩ := and2 h
    have e1 := str_eq_of h1
    subst e1
    refine se_getd o.prg o.wd o.un o.K (ih.ex _ _ h5 .read) (ih.ex _ _ h6 .kept) (ih.ex _ _ h7 .kept) ⟨rfl, ?_, h2, ?_⟩
    · rw [star_ok h3, star_ok h4]
      rfl
    · rw [star_ok h3, star_ok h4]
      rfl
  rename_i x px
  cases kws <;> first | cases h | skip
  simp only at h
  split at h <;> (try contradiction)
  · rename_i f ms
    obtain ⟨h, h4⟩ := and2 h
    obtain ⟨h, h3⟩ := and2 h
    obtain ⟨h1, h2⟩ := and2 h
    obtain ⟨a1, a2, a3⟩ := all_ok ih .kept h4
    have hf := o.fns x f (by simpa using h3)
    cases as with
    | nil =>
      cases ms with
      | nil => exact se_call0 hf (gl_ok o h1) (okName_debug h2).1
      | cons _ _ => simp at a3
    | cons e es => exact se_call hf (gl_ok o h1) (okName_debug h2).1 a1 a2
  · rename_i b ms
    unfold ckBi at h
    split at h
    · rename_i y ey
      obtain ⟨h, h4⟩ := and2 h
      obtain ⟨h, h3⟩ := and2 h
      obtain ⟨h1, h2⟩ := and2 h
      have e1 := str_eq_of h1
      subst e1
      cases as with
      | nil => cases h3
      | cons e es =>
        obtain ⟨a1, a2, a3⟩ := all_ok ih .read h4
        exact bi_se o ey h2 a1 a2
    · split at h <;> (try contradiction)
      obtain ⟨h1, h9⟩ := and2 h
      have e1 := str_eq_of h1
      subst e1
      unfold ckLR at h9
      split at h9 <;> (try contradiction)
      obtain ⟨h9, h6⟩ := and2 h9
      obtain ⟨h9, h5⟩ := and2 h9
      obtain ⟨h9, h4⟩ := and2 h9
      obtain ⟨h2, h3⟩ := and2 h9
      have e2 := str_eq_of h2
      subst e2
      exact se_listRange o.calm (gl_ok o h3) (o.blt _ (by decide +kernel)) (gl_ok o h4) (o.blt _ (by decide +kernel)) (ih.ex _ _ h6 .read) h5
  · rename_i ma t
    unfold ckIsa at h
    split at h <;> (try contradiction)
    obtain ⟨h, h6⟩ := and2 h
    obtain ⟨h, h5⟩ := and2 h
    obtain ⟨h, h4⟩ := and2 h
    obtain ⟨h, h3⟩ := and2 h
    obtain ⟨h1, h2⟩ := and2 h
    have e1 := str_eq_of h1
    have e2 := str_eq_of h3
    subst e1 e2
    exact isa_se o h2 h4 (ih.ex _ _ h6 .read) h5
  · rename_i ma
    unfold ckDictR at h
    split at h <;> (try contradiction)
    obtain ⟨h, h4⟩ := and2 h
    obtain ⟨h, h3⟩ := and2 h
    obtain ⟨h1, h2⟩ := and2 h
    have e1 := str_eq_of h1
    subst e1
    exact se_dictR o.K o.calm (gl_ok o h2) (o.blt _ (by decide +kernel)) (ih.ex _ _ h4 .kept) h3
theorem asLc_eq {x : E} {r : E × List Nat × T × E} (h : asLc x = some r) : x = .lc r.1 r.2.1 r.2.2.1 r.2.2.2 [] := by
  unfold asLc at h
  split at h <;> (try contradiction)
  cases h; rfl
theorem asSet2_eq {m x : E} (h : asSet2 m = some x) : m = .bi .setLen2 [x] := by
  unfold asSet2 at h
  split at h <;> (try contradiction)
  cases h; rfl
theorem asVar_eq {m : E} {i : Nat} (h : asVar m = some i) : m = .var i := by
  unfold asVar at h
  split at h <;> (try contradiction)
  cases h; rfl
theorem asTn_eq {m : T} {i : Nat} (h : asTn m = some i) : m = .name i := by
  unfold asTn at h
  split at h <;> (try contradiction)
  cases h; rfl
theorem asGens_eq {g : List Comprehension} {r : Expr × Expr × Expr × Expr} (h : asGens g = some r) : g = [⟨r.1, r.2.1, [], 0⟩, ⟨r.2.2.1, r.2.2.2, [], 0⟩] := by
  unfold asGens at h
  split at h <;> (try contradiction)
  cases h; rfl
theorem sub_ok {is js : List Nat} (h : subB is js = true) : ∀ j ∈ is, j ∈ js := fun j hj => by
  unfold subB at h
  have := List.all_eq_true.mp h j hj
  simpa using this
theorem ckS2_ok {n : Nat} (o : XOk C F G N sc top X) (ihA : ∀ (sc : Scope) (top : Bool) (X : Cx), XOk C F G N sc top X → Ok3 C F sc X ck) {f : Expr} {as : List Expr} {kws : List Keyword} {p : Pos} {m : E} (h : ckS2 N n ck sc f as kws m = true) : SE C F X md (.Call f as kws p) m := by
  unfold ckS2 at h
  split at h <;> (try contradiction)
  rename_i x px elt gens scope ps
  obtain ⟨h, h9⟩ := and2 h
  obtain ⟨h1, h2⟩ := and2 h
  have e1 := str_eq_of h1
  subst e1
  unfold ckS2e at h9
  split at h9 <;> (try contradiction)
  rename_i tg it tg1 it1 y eg em
  split at h9 <;> (try contradiction)
  rename_i inner vs t mit ey
  split at h9 <;> (try contradiction)
  rename_i melt vs1 t1 mv v0 ei et
  split at h9 <;> (try contradiction)
  rename_i v1 ev
  obtain ⟨hv, hb⟩ := and2 h9
  have hv := Nat.eq_of_beq_eq_true hv
  subst hv
  have e3 := asVar_eq ev
  have e4 := asTn_eq et
  have e5 := asLc_eq ei
  have e6 := asLc_eq ey
  have e7 := asSet2_eq em
  have e8 := asGens_eq eg
  simp only at e5 e6 e8
  subst e3 e4
  subst e5
  subst e6
  subst e7 e8
  unfold ckS2b at hb
  obtain ⟨h, q11⟩ := and2 hb
  obtain ⟨h, q10⟩ := and2 h
  obtain ⟨h, q9⟩ := and2 h
  obtain ⟨h, q8⟩ := and2 h
  obtain ⟨h, q7⟩ := and2 h
  obtain ⟨h, q6⟩ := and2 h
  obtain ⟨h, q5⟩ := and2 h
  obtain ⟨h, q4⟩ := and2 h
  obtain ⟨h, q3⟩ := and2 h
  obtain ⟨q1, q2⟩ := and2 h
  have ew : (ownOf N scope vs).map (·.2) = vs := by
    unfold ownOf
    rw [List.map_map]
    exact List.map_id vs
  have tupT : ∀ tg : Expr, sevT tg = true → ∃ es k p, tg = .Tuple es k p := fun tg z => by
    cases tg <;> first | exact ⟨_, _, _, rfl⟩ | cases z
  have := se_set2 (C := C) (F := F) (X := X) (md := md) (elt := elt) (tg := tg) (iter := it) (tg1 := tg1) (iter1 := it1) (scope := scope) (own := ownOf N scope vs) (vs1 := vs1) (melt := melt) (mit := mit) (v0 := v0) (t1 := t1) (p0 := px) (pos := ps) (cpos := p) o.calm (by rw [o.Ne]; exact o.nd) (by rw [o.Ne, o.se]; exact blkOk_by q1) (gl_ok o h2) (o.blt _ (by decide +kernel))
    ((ihA sc top X o).it _ tg it mit q7 (tupT tg) .iter (.inl rfl)) (fun s H Ca cl fp => chkT_ok (o.blk s H Ca cl fp) n q8) (fun s H Ca cl fp => (ihA _ _ _ (o.blk s H Ca cl fp)).it _ tg1 it1 (.var v0) q9 (tupT tg1) .walk (.inr rfl)) (fun s H Ca cl fp => chkT_ok (o.blk s H Ca cl fp) n q10) (fun s H Ca cl fp => (ihA _ _ _ (o.blk s H Ca cl fp)).ex elt melt q11 .kept)
    (by rw [ew]; exact sub_ok q2 v0 (by simp)) (sub_ok q3) (by rw [ew]; exact sub_ok q4) (fun x => noset_ok q5 _ x) (fun env x => noset_ok q6 _ x)
  rw [ew] at this
  exact this
theorem ckEx_ok {n : Nat} (o : XOk C F G N sc top X) (ihA : ∀ (sc : Scope) (top : Bool) (X : Cx), XOk C F G N sc top X → Ok3 C F sc X ck) {e : Expr} {m : E} (h : ckEx G N n ck sc e m = true) (md : Md) : SE C F X md e m := by
  have ih := ihA sc top X o
  unfold ckEx at h
  cases e <;> first | cases h | skip
  case BoolOp op vs p => exact bool_se ih h md
  case BinOp a op b p =>
    have h : ckBin ck sc a op b m = true := h
    unfold ckBin at h
    split at h <;> (try contradiction)
    obtain ⟨h, h3⟩ := and2 h
    obtain ⟨h1, h2⟩ := and2 h
    exact bin_se o h1 (ih.ex _ _ h2 .read) (ih.ex _ _ h3 .read)
  case UnaryOp op a p =>
    cases op <;> first | cases h | skip
    · have h : ckNot ck sc .ex a m = true := h
      unfold ckNot at h
      split at h <;> (try contradiction)
      exact se_not (ih.ex _ _ h .read)
    · have h : ckNeg ck sc a m = true := h
      unfold ckNeg at h
      split at h <;> (try contradiction)
      exact se_neg (ih.ex _ _ h .read)
  case IfExp t a b p =>
    have h : ckIte ck sc t a b m = true := h
    unfold ckIte at h
    split at h <;> (try contradiction)
    obtain ⟨h, h3⟩ := and2 h
    obtain ⟨h1, h2⟩ := and2 h
    exact se_ite (ih.ts _ _ h1) (ih.ex _ _ h2 .kept) (ih.ex _ _ h3 .kept)
  case ListComp elt gens scope p =>
    have h : ckLc N n ck sc elt gens scope m = true := h
    obtain ⟨tg, it, ifs, melt, vs, t, mit, mifs, rfl, rfl⟩ := lc_form h
    obtain ⟨q1, q2, q3, q4, q5, q6, q7, q8⟩ := lc_parts o ihA h
    have := se_lc (md := md) (pos := p) o.calm (by rw [o.Ne]; exact o.nd) q1 q2 q3 q4 q5 q6 q7
    rw [q8] at this
    exact this
  case Compare a ops bs p => exact (ckCmp_ok o ih h).1 md
  case Call f as kws p =>
    have h : (ckCall G ck sc f as kws p m || ckS2 N n ck sc f as kws m) = true := h
    rw [Bool.or_eq_true] at h
    rcases h with h | h
    · exact ckCall_ok o ih h
    · exact ckS2_ok o ihA h
  case Constant c k p =>
    simp only at h
    split at h <;> (try contradiction)
    exact con_ok h
  case Dict ks vs p =>
    cases ks <;> first | cases h | skip
    cases vs <;> first | cases h | skip
    cases m <;> first | cases h | skip
    · exact se_dict0
    · exact se_newN o.prg o.wd
  case Subscript a s p => exact ckSub_ok o ih h
  case Name x p => exact ckName_ok o h
  case List es p =>
    have h : ckSeq ck sc false es m = true := h
    unfold ckSeq at h
    split at h <;> (try contradiction)
    exact se_list (all_ok ih .kept (and2 h).2).1
  case Tuple es k p =>
    have h : ckSeq ck sc true es m = true := h
    unfold ckSeq at h
    split at h <;> (try contradiction)
    · exact se_tup (all_ok ih .kept (and2 h).2).1
    · exact se_tupR (all_ok ih .kept (and2 h).2).1
end
/-! ### objects -/
section
variable {sc : Scope} {top : Bool} {X : Cx} {ck : Ck} {md : Md}
theorem obB_ok {o : Expr} (h : obB o = true) (n : Str) (env : PySem.Env) : attributeBase o n env (eval o env) = eval o env := by
  unfold obB at h
  split at h <;> first | rfl | cases h
theorem star_none {env : PySem.Env} {pos : Pos} : ∀ {es : List Expr}, es.all plainE = true → (backTo pos (starEach es env)).all (fun x => !x.1) = true := by
  intro es h
  rw [List.all_eq_not_any_not]
  have := star_all h env
  rw [← backTo_any pos] at this
  simp only [Bool.not_not]
  rw [show (fun x : Bool × Sem Value => x.1) = (·.1) from rfl, this]
  rfl
theorem meth_ev {o : Expr} {m : Str} {apos pos : Pos} {args : List Expr} {env : PySem.Env} (hb : attributeBase o m env (eval o env) = eval o env) (hp : args.all plainE = true) (hn : args.length < 30) (hl : (apos.endLine == pos.line) = true) :
    eval (.Call (.Attribute o m apos) args [] pos) env = (do
      let ov ← eval o env
      standAt apos.atName
      let (f, first) ← holding [ov] (getMethod ov m (do return (← importBound o env).getD true))
      callWith pos f first (backTo pos (starEach args env)) (backToKw pos (keywordEach [] env))) := by
  have hf : methodCallForm (args.length + ([] : List Keyword).length) (backTo pos (starEach args env)) (backToKw pos (keywordEach [] env)) = true := by
    unfold methodCallForm
    rw [star_none hp]
    show (true && true && decide (args.length + 0 + 0 < 30)) = true
    simp [hn]
  show (do
    let ov ← attributeBase o m env (eval o env)
    standAt apos.atName
    methodCall o m apos pos env ov (args.length + ([] : List Keyword).length) (backTo pos (starEach args env)) (backToKw pos (keywordEach [] env))) = _
  rw [hb]
  unfold methodCall calleeOf methodCallPos
  rw [hf, hl]
  rfl
theorem make_sx (o : XOk C F G N sc top X) (ih : Ok3 C F sc X ck) {e : Expr} {c f : Nat} {ms : List E} (h : ckMake G ck sc e c f ms = true) : SX C F X e (.make c f ms) := by
  unfold ckMake at h
  split at h <;> (try contradiction)
  obtain ⟨h, h4⟩ := and2 h
  obtain ⟨h, h3⟩ := and2 h
  obtain ⟨h1, h2⟩ := and2 h
  obtain ⟨a1, a2, a3⟩ := all_ok ih .kept h4
  exact sx_make (o.cls _ c f (by simpa using h3)).1 (gl_ok o h1) (okName_debug h2).1 a1 a2
theorem meth_sx (o : XOk C F G N sc top X) (ih : Ok3 C F sc X ck) {e : Expr} {c f : Nat} {mo : E} {ms : List E} (h : ckMth G ck sc e c f mo ms = true) : SX C F X e (.meth c f mo ms) := by
  unfold ckMth at h
  split at h <;> (try contradiction)
  rename_i ob m apos as cpos
  obtain ⟨h, h4⟩ := and2 h
  obtain ⟨h, h3⟩ := and2 h
  obtain ⟨h, h2⟩ := and2 h
  obtain ⟨h, h6⟩ := and2 h
  obtain ⟨h1, h5⟩ := and2 h
  have h6 := of_decide_eq_true h6
  obtain ⟨a1, a2, a3⟩ := all_ok ih .kept h4
  have hm := o.mts m c f (by simpa using h2)
  have ho := ih.ex _ _ h3 .kept
  have hob : attributeBase ob m X.env (eval ob X.env) = eval ob X.env := by
    unfold obM at h1
    split at h1 <;> first | rfl | cases h1
  have hev := meth_ev (pos := cpos) hob a2 h6 h5
  cases as with
  | nil =>
    cases ms with
    | cons _ _ => simp at a3
    | nil => exact sx_meth0 hm ho hev
  | cons a as => exact sx_meth hm ho a1 a2 hev
theorem ckOb_ok {n : Nat} (o : XOk C F G N sc top X) (ihA : ∀ (sc : Scope) (top : Bool) (X : Cx), XOk C F G N sc top X → Ok3 C F sc X ck) {e : Expr} {m : E} (h : ckOb G N n ck sc e m = true) (md : Md) : SE C F X md e m := by
  have ih := ihA sc top X o
  unfold ckOb at h
  split at h <;> (try contradiction)
  · exact se_sx (fun _ _ => by unfold ev; rfl) (make_sx o ih h)
  · exact se_sx (fun _ _ => by unfold ev; rfl) (meth_sx o ih h)
  · unfold ckFld at h
    split at h <;> (try contradiction)
    obtain ⟨h, h3⟩ := and2 h
    obtain ⟨h1, h2⟩ := and2 h
    exact se_fld (o.fls _ 0 _ (by simpa using h2)) (ih.ex _ _ h3 .kept) (obB_ok h1 _ _) o.one
  · unfold ckSpc at h
    split at h <;> (try contradiction)
    · unfold ckSpc1 at h
      split at h <;> (try contradiction)
      obtain ⟨h, h5⟩ := and2 h
      obtain ⟨h, h4⟩ := and2 h
      obtain ⟨h, h3⟩ := and2 h
      obtain ⟨h1, h2⟩ := and2 h
      have e1 := str_eq_of h1
      subst e1
      exact se_ownLen (o.mts _ _ _ (by simpa using h4)) (gl_ok o h2) (o.blt _ (by decide +kernel)) (ih.ex _ _ h5 .kept) h3
    · unfold ckSpc1 at h
      split at h <;> (try contradiction)
      obtain ⟨h, h5⟩ := and2 h
      obtain ⟨h, h4⟩ := and2 h
      obtain ⟨h, h3⟩ := and2 h
      obtain ⟨h1, h2⟩ := and2 h
      have e1 := str_eq_of h1
      subst e1
      exact se_ownStr (o.mts _ _ _ (by simpa using h4)) (gl_ok o h2) (o.blt _ (by decide +kernel)) (ih.ex _ _ h5 .kept) h3
    · unfold ckSpc2 at h
      split at h <;> (try contradiction)
      obtain ⟨h, h4⟩ := and2 h
      obtain ⟨h, h3⟩ := and2 h
      obtain ⟨h1, h2⟩ := and2 h
      have hm := h2
      exact se_ownEq (o.mts _ _ _ (by simpa using h2)) (o.eqs _ _ (by simpa using h2)) (ih.ex _ _ h3 .kept) (ih.ex _ _ h4 .kept) (noset_marks h1 _)
  · unfold ckIsc at h
    split at h <;> (try contradiction)
    obtain ⟨h, h7⟩ := and2 h
    obtain ⟨h, h6⟩ := and2 h
    obtain ⟨h, h5⟩ := and2 h
    obtain ⟨h, h4⟩ := and2 h
    obtain ⟨h, h3⟩ := and2 h
    obtain ⟨h1, h2⟩ := and2 h
    have e1 := str_eq_of h1
    subst e1
    obtain ⟨p, hp, hq⟩ := List.any_eq_true.mp h6
    obtain ⟨q1, q2⟩ := and2 hq
    have e2 := str_eq_of q1
    have e3 := Nat.eq_of_beq_eq_true q2
    subst e2 e3
    exact se_isc (o.cls p.1 p.2.1 p.2.2 hp).2 (gl_ok o h2) (o.blt _ (by decide +kernel)) (gl_ok o h3) (okName_debug h4).1 (ih.ex _ _ h7 .kept) h5
  · unfold ckMk at h
    split at h <;> (try contradiction)
    · exact se_mk (sf_list (all_ok ih .kept h).1)
    · obtain ⟨h, h4⟩ := and2 h
      obtain ⟨h, h3⟩ := and2 h
      obtain ⟨h1, h2⟩ := and2 h
      have e1 := str_eq_of h1
      subst e1
      exact se_mk (sf_listc o.prg o.wd o.K o.calm (gl_ok o h2) (o.blt _ (by decide +kernel)) (ih.ex _ _ h4 .read) h3)
  · unfold ckPop at h
    split at h <;> (try contradiction)
    obtain ⟨h, h4⟩ := and2 h
    obtain ⟨h, h3⟩ := and2 h
    obtain ⟨h1, h2⟩ := and2 h
    have e1 := str_eq_of h1
    subst e1
    exact se_pop (ih.ex _ _ h4 .kept) (obB_ok h2 _ _) h3
  · split at h <;> (try contradiction)
    · unfold ckJoin at h
      split at h <;> (try contradiction)
      obtain ⟨h, h6⟩ := and2 h
      obtain ⟨h, h5⟩ := and2 h
      obtain ⟨h, h4⟩ := and2 h
      obtain ⟨h, h3⟩ := and2 h
      obtain ⟨h1, h2⟩ := and2 h
      have e1 := str_eq_of h1
      subst e1
      exact se_join (ih.ex _ _ h5 .read) (ih.ex _ _ h6 .read) h4 (obB_ok h2 _ _) h3
    · unfold ckSSet at h
      split at h <;> (try contradiction)
      obtain ⟨h, h6⟩ := and2 h
      obtain ⟨h, h5⟩ := and2 h
      obtain ⟨h, h4⟩ := and2 h
      obtain ⟨h, h3⟩ := and2 h
      obtain ⟨h1, h2⟩ := and2 h
      have e1 := str_eq_of h1
      have e2 := str_eq_of h2
      subst e1 e2
      exact se_sortedSet o.K o.calm (gl_ok o h3) (o.blt _ (by decide +kernel)) (gl_ok o h4) (o.blt _ (by decide +kernel)) (ih.ex _ _ h6 .read) h5
  · rename_i melt vs t mit mifs
    unfold ckLcL at h
    split at h <;> (try contradiction)
    rename_i elt gens scope pos
    split at h <;> (try contradiction)
    rename_i tg it ifs
    obtain ⟨h, h7⟩ := and2 h
    obtain ⟨h, h6⟩ := and2 h
    obtain ⟨h, h5⟩ := and2 h
    obtain ⟨h, h4⟩ := and2 h
    obtain ⟨h, h3⟩ := and2 h
    obtain ⟨h1, h2⟩ := and2 h
    have ev : (ownOf N scope vs).map (·.2) = vs := by
      unfold ownOf
      rw [List.map_map]
      exact List.map_id vs
    have := se_lcL (C := C) (F := F) (X := X) (md := md) (elt := elt) (tg := tg) (iter := it) (ifs := ifs) (scope := scope) (own := ownOf N scope vs) (melt := melt) (mit := mit) (mifs := mifs) (t := t) (pos := pos) o.calm (by rw [o.Ne]; exact o.nd) (by rw [o.Ne, o.se]; exact blkOk_by h1) (ih.ex _ _ h4 .kept) (fun s H Ca cl fp => chkTb_ok o s H Ca cl fp h5) (fun s H Ca cl fp => by
      unfold ckIfs at h6
      match ifs, mifs, h6 with
      | [], [], _ => exact .inl ⟨rfl, rfl⟩
      | [c], [mc], h6 => exact .inr ⟨c, mc, rfl, rfl, (ihA _ _ _ (o.blk s H Ca cl fp)).ts c mc h6⟩) (fun s H Ca cl fp => (ihA _ _ _ (o.blk s H Ca cl fp)).ex elt melt h7 .kept) (fun j hj => by
      rw [ev]
      unfold subB at h2
      have := List.all_eq_true.mp h2 j hj
      simpa using this) (fun x => noset_ok h3 _ x)
    rw [ev] at this
    exact this
end
theorem bad_or {b : Bool} {m : E} (h : (isBad m || b) = true) : m = .bad ∨ b = true := by
  cases m <;> first | exact .inr h | exact .inl rfl
theorem st_bad {e : Expr} : ST C F X e .bad := fun w env σ st d st' Q ok er sr ee h hd => by unfold ev at ee; cases ee
theorem si_bad {md : Md} {tg e : Expr} : SI C F X md tg e .bad := fun w env σ st d st' ds R ok er sr ee ei h => by unfold ev at ee; cases ee
theorem rngF_loc {ds : List D} {n : Nat} : rngF ds ≠ some (.loc n) := by
  intro h
  unfold rngF at h
  split at h <;> (try contradiction)
  all_goals (split at h <;> first | contradiction | cases h)
theorem zipF_loc {ds : List D} {n : Nat} : zipF ds ≠ some (.loc n) := by
  intro h
  unfold zipF at h
  split at h <;> (try contradiction)
  all_goals (split at h <;> first | contradiction | cases h)
theorem enmF_loc {ds : List D} {n : Nat} : enmF ds ≠ some (.loc n) := by
  intro h
  unfold enmF at h
  split at h <;> first | contradiction | cases h
theorem ckIt_lo {sc : Scope} {X : Cx} {ck : Ck} (ih : Ok3 C F sc X ck) {sv : Bool} {e : Expr} {m : E} (h : ckIt ck sc sv e m = true) {env : Env} {st : Store} {n : Nat} {st' : Store} (ee : ev F .walk m env st = .ok (.loc n) st') : SE C F X .walk e m := by
  unfold ckIt at h
  cases m
  case rng ms =>
    unfold ev at ee
    obtain ⟨ds, st1, _, ee⟩ := bind_ok ee
    exact absurd (of_ok ee).1 rngF_loc
  case zip ms =>
    unfold ev at ee
    obtain ⟨ds, st1, _, ee⟩ := bind_ok ee
    exact absurd (of_ok ee).1 zipF_loc
  case enm ms =>
    unfold ev at ee
    obtain ⟨ds, st1, _, ee⟩ := bind_ok ee
    exact absurd (of_ok ee).1 enmF_loc
  all_goals exact ih.ex _ _ h .walk
theorem chk_ok : ∀ (n : Nat) (sc : Scope) (top : Bool) (X : Cx), XOk C F G N sc top X → Ok3 C F sc X (chk G N n)
  | 0, _, _, _, _ => ⟨fun _ _ h => (by cases h), fun _ _ h => (by cases h), fun _ _ _ _ h => (by cases h), fun _ _ _ h => (by cases h)⟩
  | n + 1, sc, top, X, o => by
    refine ⟨fun e m h md => ?_, fun e m h => ?_, fun sv tg e m h hsv md hmd => ?_, fun sv e m h env st k st' ee => ?_⟩
    · rcases bad_or h with rfl | h
      · exact se_bad
      · rcases Bool.or_eq_true_iff.mp h with h | h
        · exact ckEx_ok o (fun sc top X o => chk_ok n sc top X o) h md
        · exact ckOb_ok o (fun sc top X o => chk_ok n sc top X o) h md
    · rcases bad_or h with rfl | h
      · exact st_bad
      · exact ckTs_ok o (chk_ok n sc top X o) h
    · rcases bad_or h with rfl | h
      · exact si_bad
      · exact ckIt_ok o (chk_ok n sc top X o) h hsv md hmd
    · rcases bad_or h with rfl | h
      · exact se_bad
      · exact ckIt_lo (chk_ok n sc top X o) h ee
section
variable {C : Ct} {F : Fns} {G : Gs} {N : List Str} {sc : Scope} {top : Bool} {X : Cx} {ck : Ck}
theorem boolX_ok (ih : Ok3 C F sc X ck) {cx : Expr → E → Bool} (hx : ∀ e m, cx e m = true → SX C F X e m) {op : BoolOp} {pos : Pos} : ∀ {vs : List Expr} {m : E}, ckBoolX (ck sc .ex) cx op vs m = true → SX C F X (.BoolOp op vs pos) m
  | [], _, h => by cases h
  | [e], m, h => sx_one (hx e m h)
  | e :: e2 :: es, m, h => by
    unfold ckBoolX at h
    cases op with
    | And =>
      cases m <;> first | cases h | skip
      obtain ⟨h1, h2⟩ := and2 h
      exact sx_and (ih.ex _ _ h1 .read) (boolX_ok ih hx h2)
    | Or =>
      cases m <;> first | cases h | skip
      obtain ⟨h1, h2⟩ := and2 h
      exact sx_or (ih.ex _ _ h1 .read) (boolX_ok ih hx h2)
theorem chkX_ok (o : XOk C F G N sc top X) (ih : Ok3 C F sc X ck) : ∀ (n : Nat) (e : Expr) (m : E), chkX G ck sc n e m = true → SX C F X e m
  | 0, _, _, h => by cases h
  | n + 1, e, m, h => by
    unfold chkX at h
    split at h
    · rename_i f ms
      unfold ckCallX at h
      split at h <;> (try contradiction)
      rename_i x px as p
      obtain ⟨h, h4⟩ := and2 h
      obtain ⟨h, h3⟩ := and2 h
      obtain ⟨h1, h2⟩ := and2 h
      obtain ⟨a1, a2, a3⟩ := all_ok ih .kept h4
      have hf := o.fns x f (by simpa using h3)
      cases as with
      | nil =>
        cases ms with
        | nil => exact sx_call0 hf (gl_ok o h1) (okName_debug h2).1
        | cons _ _ => simp at a3
      | cons e es => exact sx_call hf (gl_ok o h1) (okName_debug h2).1 a1 a2
    · unfold ckCallD at h
      split at h <;> (try contradiction)
      obtain ⟨h1, h2⟩ := and2 h
      obtain ⟨a1, a2, a3⟩ := all_ok ih .kept h2
      exact sx_calld o.fno (ih.ex _ _ h1 .kept) a1 a2
    · exact make_sx o ih h
    · exact meth_sx o ih h
    · split at h <;> (try contradiction)
      obtain ⟨h, h3⟩ := and2 h
      obtain ⟨h1, h2⟩ := and2 h
      exact sx_ite (ih.ts _ _ h1) (chkX_ok o ih n _ _ h2) (chkX_ok o ih n _ _ h3)
    · split at h <;> (try contradiction)
      exact boolX_ok ih (chkX_ok o ih n) h
    · split at h <;> (try contradiction)
      exact boolX_ok ih (chkX_ok o ih n) h
    · obtain ⟨h1, h2⟩ := and2 h
      exact sx_se (ih.ex _ _ h2 .kept) fun env st c st' => calm_noerr h1 env st c st'
end
end
end Mi

set_option Elab.async false
set_option linter.all false
set_option maxRecDepth 100000
set_option maxHeartbeats 4000000
/-! Mi13: statements held against those of the small language. -/
namespace Mi
open PySem PySem.Spec PyProof.Rows L2

def locL (sc : Scope) (x : Str) : Bool := match sc.names.lookup x with
  | some .local => true
  | _ => false
/-- name = [.. for ..]: is the comprehension's list stored within its block? -/
def swB (sc : Scope) (y : Str) (py : Pos) (scope : Scope) (pos : Pos) : Bool := locL sc y && py.line == pos.line && !(scope.names.any fun (n, k) => n == y && (k == .local || k == .cell))
/-- a, b = x, y: are the stores swapped? -/
def swB2 (sc : Scope) (ts vs : List Expr) : Option Bool :=
  if (!(ts.length == 2 || ts.length == 3) || vs.length != ts.length) then some false
  else if vs.all (foldedForSure 8) then some false
  else if (ts.any fun
    | .Name id _ => !locL sc id
    | _ => true) then some false
  else if vs.all (constantsAlone 8) then none
  else some true
def chkF (sc : Scope) (ck : Expr → E → Bool) (e : Expr) (m : E) : Bool := match e with
  | .List es _ => (match m with
    | .list ms => chkAll ck es ms
    | _ => false)
  | .BinOp a .Mult b _ => (match m with
    | .bin .mul ma mb => ck a ma && ck b mb
    | _ => false)
  | .Dict [] [] _ => (match m with
    | .dict0 => true
    | .dictN => true
    | _ => false)
  | .Call (.Name x _) [a] [] _ => (match m with
    | .bi .dict [ma] => x == ("dict" : Str) && glB sc "dict" && plainE a && ck a ma
    | _ => false)
  | _ => false
def chkM (sc : Scope) (ck : Expr → E → Bool) : List Bool → List Expr → List E → Bool
  | [], [], [] => true
  | o :: os, e :: es, m :: ms => plainE e && (if o then chkF sc ck e m else ck e m) && chkM sc ck os es ms
  | _, _, _ => false
def chkNames (N : List Str) (sc : Scope) : List Expr → List Nat → Bool
  | [], [] => true
  | .Name x _ :: ts, i :: is => atB N i x && locB true sc x && chkNames N sc ts is
  | _, _ => false
/-- a freezing under a test of two lengths: no statement of the code answers to it -/
def frzIf : S → Bool
  | .ite (.cmp .eq (.bi .len [.var _]) (.bi .len [.var _])) [.frz _] [] => true
  | _ => false
def chkL (ck : Stmt → S → Bool) : List Stmt → List S → Bool
  | ss, m :: ms => if frzIf m then chkL ck ss ms else (match m with
    | .frz _ => chkL ck ss ms
    | .bad => true
    | m => (match ss with
      | s :: ss => ck s m && chkL ck ss ms
      | [] => false))
  | [], [] => true
  | _ :: _, [] => false
def lines : List Expr → Bool
  | .Name _ p :: ts => ts.all fun
    | .Name _ q => q.line == p.line
    | _ => false
  | _ => false
def nodupB : List Nat → Bool
  | [] => true
  | i :: is => !is.contains i && nodupB is
def nodupS : List Expr → Bool
  | [] => true
  | .Name x _ :: ts => (ts.all fun
    | .Name y _ => !(y == x)
    | _ => false) && nodupS ts
  | _ => false

def ckExpr (cx : Expr → E → Bool) (s : Stmt) (me : E) : Bool := match s with
  | .Expr e _ => noComp e && cx e me
  | _ => false
def ckRet (cx : Expr → E → Bool) (s : Stmt) (me : E) : Bool := match s with
  | .Return (some e) _ => cx e me
  | _ => false
def ckRaise (G : Gs) (sc : Scope) (s : Stmt) (k : Nat) : Bool := match s with
  | .Raise (some (.Call (.Name x _) [.Constant (.str _) _ _] [] _)) none _ => G.errs.contains (x, k) && glB sc x && okName x
  | _ => false
/-- x.at(e), as a statement -/
def ckMeth (N : List Str) (ck : Ck) (sc : Scope) (name : Str) (s : Stmt) (i : Nat) (me : E) : Bool := match s with
  | .Expr (.Call (.Attribute (.Name x _) at_ apos) [e] [] cpos) _ => at_ == name && atB N i x && visB sc x && okName x && plainE e && apos.endLine == cpos.line && ck sc .ex e me
  | _ => false
def ckSetix (N : List Str) (ck : Ck) (sc : Scope) (s : Stmt) (i : Nat) (mi me : E) : Bool := match s with
  | .Assign [.Subscript (.Name x _) ix _] e _ => atB N i x && visB sc x && okName x && noComp e && noSlice ix && ck sc .ex e me && ck sc .ex ix mi
  | _ => false
def augB (o : Operator) (op : Op) : Bool := match o, op with
  | .Add, .add => true
  | .Sub, .sub => true
  | _, _ => false
def ckAug (N : List Str) (ck : Ck) (sc : Scope) (s : Stmt) (i : Nat) (op : Op) (me : E) : Bool := match s with
  | .AugAssign (.Name x _) o e _ => atB N i x && locB true sc x && augB o op && ck sc .ex e me
  | _ => false
def ckFresh (N : List Str) (ck : Ck) (sc : Scope) (s : Stmt) (i : Nat) (me : E) : Bool := match s with
  | .Assign [.Name x _] e _ => atB N i x && locB true sc x && noComp e && chkF sc (ck sc .ex) e me
  | _ => false
def ckVal (N : List Str) (n : Nat) (ck : Ck) (cx : Expr → E → Bool) (sc : Scope) (x : Str) (py : Pos) (e : Expr) (me : E) : Bool := match e with
  | .ListComp elt gens scope pos => if swB sc x py scope pos then ckLc N n ck sc elt gens scope me else cx e me
  | e => noComp e && cx e me
def ckAsgN (N : List Str) (n : Nat) (ck : Ck) (cx : Expr → E → Bool) (sc : Scope) (s : Stmt) (i : Nat) (me : E) : Bool := match s with
  | .Assign [.Name x py] e _ => atB N i x && locB true sc x && ckVal N n ck cx sc x py e me
  | _ => false
def ckAsgT (N : List Str) (n : Nat) (cx : Expr → E → Bool) (sc : Scope) (s : Stmt) (t : T) (me : E) : Bool := match s with
  | .Assign [tg] e _ => sevT tg && noTup e && noComp e && chkT N true sc n tg t && cx e me
  | _ => false
def ckSw (sc : Scope) (ts es : List Expr) : Bool := match swB2 sc ts es with
  | some true => lines ts && nodupS ts
  | some false => true
  | none => false
def ckPar (N : List Str) (ck : Ck) (sc : Scope) (s : Stmt) (ios : List (Nat × Bool)) (ms : List E) : Bool := match s with
  | .Assign [.Tuple ts _ _] (.Tuple es _ _) _ => chkNames N sc ts (ios.map (·.1)) && nodupB (ios.map (·.1)) && chkM sc (ck sc .ex) (ios.map (·.2)) es ms && fit ms.length && decide (ms.length = ts.length) && ckSw sc ts es
  | _ => false
def ckIf (ck : Ck) (cs : Stmt → S → Bool) (sc : Scope) (s : Stmt) (mt : E) (ma mb : List S) : Bool := match s with
  | .If t a b _ => ck sc .ts t mt && chkL cs a ma && chkL cs b mb
  | _ => false
def ckFor (N : List Str) (n : Nat) (ck : Ck) (cs : Stmt → S → Bool) (sc : Scope) (s : Stmt) (t : T) (mit : E) (mb : List S) : Bool := match s with
  | .For tg it body [] _ => noSet it && ck sc (.it (sevT tg)) it mit && chkT N true sc n tg t && chkL cs body mb
  | _ => false
def ckWhile (ck : Ck) (cs : Stmt → S → Bool) (sc : Scope) (s : Stmt) (mt : E) (mb : List S) : Bool := match s with
  | .While t body [] _ => ck sc .ts t mt && chkL cs body mb
  | _ => false
def ckPass (s : Stmt) : Bool := match s with
  | .Pass _ => true
  | _ => false
def ckTry (G : Gs) (N : List Str) (cs : Stmt → S → Bool) (sc : Scope) (s : Stmt) (i : Nat) (mb : List S) : Bool := match s with
  | .Try body [.ExceptHandler (some (.Name x _)) (some nm) [.Return (some (.Call (.Name w _) [.Name e _] [] _)) _] _] [] [] _ => G.wh && x == ("AskError" : Str) && w == ("_law_which" : Str) && e == nm && atB N i nm && locL sc nm && okName nm && glB sc "AskError" && glB sc "_law_which" && chkL cs body mb
  | _ => false
def ckSetf (G : Gs) (N : List Str) (ck : Ck) (sc : Scope) (s : Stmt) (i g : Nat) (me : E) : Bool := match s with
  | .Assign [.Attribute (.Name x _) n _] e _ => atB N i x && visB sc x && okName x && G.flds.contains (n, 0, g) && noComp e && ck sc .ex e me
  | _ => false
def ckAppA (ck : Ck) (sc : Scope) (s : Stmt) (mo me : E) : Bool := match s with
  | .Expr (.Call (.Attribute o n apos) [e] [] cpos) _ => n == ("append" : Str) && obB o && apos.endLine == cpos.line && plainE e && ck sc .ex o mo && ck sc .ex e me
  | _ => false
def chkS (G : Gs) (N : List Str) (sc : Scope) : Nat → Stmt → S → Bool
  | 0, _, _ => false
  | n + 1, s, m => (match m with
    | .pass => ckPass s
    | .bad => true
    | .raise_ k => ckRaise G sc s k
    | .ret me => ckRet (chkX G (chk G N n) sc n) s me
    | .expr me => ckExpr (chkX G (chk G N n) sc n) s me
    | .ite mt ma mb => ckIf (chk G N n) (chkS G N sc n) sc s mt ma mb
    | .for_ t mit mb => ckFor N n (chk G N n) (chkS G N sc n) sc s t mit mb
    | .while_ mt mb => ckWhile (chk G N n) (chkS G N sc n) sc s mt mb
    | .append i me => ckMeth N (chk G N n) sc "append" s i me
    | .extend i me => ckMeth N (chk G N n) sc "extend" s i me
    | .setix i mi me => ckSetix N (chk G N n) sc s i mi me
    | .aug i op me => ckAug N (chk G N n) sc s i op me
    | .new i me => ckFresh N (chk G N n) sc s i me
    | .loc i me => ckFresh N (chk G N n) sc s i me
    | .asg t me => (match t with
      | .name i => ckAsgN N n (chk G N n) (chkX G (chk G N n) sc n) sc s i me
      | .tup _ => ckAsgT N n (chkX G (chk G N n) sc n) sc s t me)
    | .par ios ms => ckPar N (chk G N n) sc s ios ms
    | .tryw i mb => ckTry G N (chkS G N sc n) sc s i mb
    | .setfld i g me => ckSetf G N (chk G N n) sc s i g me
    | .appendAt mo me => ckAppA (chk G N n) sc s mo me
    | _ => false)
end Mi

set_option Elab.async false
set_option linter.all false
set_option maxRecDepth 100000
set_option maxHeartbeats 4000000
/-! Mi14: statements that agree do the same. -/
namespace Mi
open PySem PySem.Spec PyProof.Rows L2
section
variable {C : Ct} {F : Fns} {G : Gs} {N : List Str} {sc : Scope} {X : Cx}
theorem ior_ok (o : XOk C F G N sc true X) (hk : sc.kind = .function) : X.env.scope.kind = .function ∧ X.env.blockKind = .function := by
  have h1 : X.env.scope.kind = .function := by rw [o.se]; exact hk
  refine ⟨h1, ?_⟩
  unfold PySem.Env.blockKind
  rw [h1]
  rfl
theorem kindOf_eq (o : XOk C F G N sc true X) (x : Str) : X.env.kindOf x = sc.names.lookup x := by
  unfold PySem.Env.kindOf
  rw [o.se]
theorem locL_ok {x : Str} (h : locL sc x = true) : sc.names.lookup x = some .local := by
  unfold locL at h
  cases q : sc.names.lookup x with
  | none => rw [q] at h; cases h
  | some k => rw [q] at h; cases k <;> first | rfl | cases h
theorem sw_eq (o : XOk C F G N sc true X) (hk : sc.kind = .function) {elt : Expr} {gs : List Comprehension} {scope : Scope} {pos py : Pos} {y : Str} {l : Nat} : swapsWith (.ListComp elt gs scope pos) (some (.Name y py)) l X.env = pure (swB sc y py scope pos) := by
  obtain ⟨h1, h2⟩ := ior_ok o hk
  unfold swapsWith swB
  simp only [h2, Expr.pos]
  have e : (X.env.kindOf y == some NameKind.local) = locL sc y := by
    rw [kindOf_eq o]
    unfold locL
    cases sc.names.lookup y with
    | none => rfl
    | some k => cases k <;> rfl
  rw [e]
  rfl
theorem chkF_ok {ck : Ck} {top : Bool} (o : XOk C F G N sc top X) (ih : Ok3 C F sc X ck) {e : Expr} {m : E} (h : chkF sc (ck sc .ex) e m = true) : SF C F X e m := by
  unfold chkF at h
  match e, m, h with
  | .List es _, .list ms, h => exact sf_list (chkAll_ok (fun e m h => ih.ex e m h .kept) h).1
  | .BinOp a .Mult b _, .bin .mul ma mb, h =>
    obtain ⟨h1, h2⟩ := and2 h
    exact sf_mul (ih.ex _ _ h1 .read) (ih.ex _ _ h2 .read)
  | .Dict [] [] _, .dict0, _ => exact sf_dict0
  | .Dict [] [] _, .dictN, _ => exact sf_dictN o.prg o.wd
  | .Call (.Name x _) [a] [] _, .bi .dict [ma], h =>
    obtain ⟨h, h4⟩ := and2 h
    obtain ⟨h, h3⟩ := and2 h
    obtain ⟨h1, h2⟩ := and2 h
    have e1 := str_eq_of h1
    subst e1
    exact sf_dictD (gl_ok o h2) (o.blt _ (by decide +kernel)) (ih.ex _ _ h4 .read) h3
theorem chkM_ok {ck : Ck} {top : Bool} (ox : XOk C F G N sc top X) (ih : Ok3 C F sc X ck) : ∀ {os : List Bool} {es : List Expr} {ms : List E}, chkM sc (ck sc .ex) os es ms = true → SM C F X os es ms ∧ os.length = ms.length ∧ es.length = ms.length
  | [], [], [], _ => ⟨sm_nil, rfl, rfl⟩
  | o :: os, e :: es, m :: ms, h => by
    unfold chkM at h
    obtain ⟨h, h3⟩ := and2 h
    obtain ⟨h1, h2⟩ := and2 h
    obtain ⟨i1, i2, i3⟩ := chkM_ok ox ih h3
    refine ⟨?_, by simp [i2], by simp [i3]⟩
    cases o with
    | true => exact sm_own (chkF_ok ox ih h2) i1 h1
    | false => exact sm_val (ih.ex _ _ h2 .kept) i1 h1
  | [], _ :: _, _, h => by cases h
  | [], [], _ :: _, h => by cases h
  | _ :: _, [], _, h => by cases h
  | _ :: _, _ :: _, [], h => by cases h
theorem chkNames_ok (o : XOk C F G N sc true X) : ∀ {ts : List Expr} {is : List Nat}, chkNames N sc ts is = true → Paired (NameAt X) ts is
  | [], [], _ => .nil
  | .Name x _ :: ts, i :: is, h => by
    unfold chkNames at h
    obtain ⟨h, h3⟩ := and2 h
    obtain ⟨h1, h2⟩ := and2 h
    obtain ⟨l1, l2⟩ := loc_ok o h2
    exact .cons ⟨pg_name (by rw [o.Ne]; exact o.nd) (by rw [o.Ne]; exact at_ok h1) l1 l2, rfl⟩ (chkNames_ok o h3)
theorem zip_map (ios : List (Nat × Bool)) : (ios.map (·.1)).zip (ios.map (·.2)) = ios := by
  induction ios with
  | nil => rfl
  | cons a r ih => simp [ih]
theorem starred_any {es : List Expr} (h : ∀ e ∈ es, plainE e = true) : es.any isStar = false := by
  induction es with
  | nil => rfl
  | cons e es ih =>
    rw [List.any_cons, ih fun x hx => h x (List.mem_cons_of_mem _ hx)]
    have := h e List.mem_cons_self
    cases e <;> first | rfl | cases this
theorem chkM_plain {sc : Scope} {ck : Expr → E → Bool} : ∀ {os : List Bool} {es : List Expr} {ms : List E}, chkM sc ck os es ms = true → ∀ e ∈ es, plainE e = true
  | [], [], [], _, _, h => by cases h
  | o :: os, e :: es, m :: ms, h, e', he => by
    unfold chkM at h
    obtain ⟨h, h3⟩ := and2 h
    obtain ⟨h1, h2⟩ := and2 h
    rcases List.mem_cons.mp he with rfl | he
    · exact h1
    · exact chkM_plain h3 e' he
  | [], _ :: _, _, h, _, _ => by cases h
  | [], [], _ :: _, h, _, _ => by cases h
  | _ :: _, [], _, h, _, _ => by cases h
  | _ :: _, _ :: _, [], h, _, _ => by cases h
/-- the stores are not swapped -/
theorem sw_no (o : XOk C F G N sc true X) (hk : sc.kind = .function) {ts es : List Expr} {k k2 : Nat} {p p2 : Pos} (hp : ∀ e ∈ es, plainE e = true) (h : swB2 sc ts es = some false) : swappedStores [.Tuple ts k p] (.Tuple es k2 p2) X.env = pure none := by
  rw [swapped_eq]
  obtain ⟨_, hb⟩ := ior_ok o hk
  unfold swB2 at h
  split at h
  · rename_i c
    have : (!(ts.length == 2 || ts.length == 3) || es.length != ts.length || X.env.blockKind != .function) = true := by rw [c]; rfl
    rw [if_pos this]
  · rename_i c
    have c1 : ¬ (!(ts.length == 2 || ts.length == 3) || es.length != ts.length || X.env.blockKind != .function) = true := by
      rw [hb]
      have : (!(ts.length == 2 || ts.length == 3) || es.length != ts.length) = false := by simpa using c
      rw [this]
      decide
    rw [if_neg c1, if_neg (by rw [starred_any hp]; decide)]
    split at h
    · rename_i c4
      by_cases c3 : ((swapNames X.env ts).length != ts.length || (swapNames X.env ts).eraseDups.length != (swapNames X.env ts).length) = true
      · rw [if_pos c3]
      · rw [if_neg c3, if_pos c4]
    · split at h
      · rename_i c5
        have key : (swapNames X.env ts).length != ts.length := by
          have hlt : (swapNames X.env ts).length < ts.length := by
            unfold swapNames
            rw [List.any_eq_true] at c5
            obtain ⟨e, he, hn⟩ := c5
            have gen : ∀ (l0 : Nat) (ts : List Expr), e ∈ ts → (ts.filterMap fun | .Name id pos => if X.env.kindOf id == some .local && pos.line == l0 then some id else none | _ => none).length < ts.length := by
              intro l0 ts
              induction ts with
              | nil => intro h; cases h
              | cons t ts ih =>
                intro ht
                rw [List.filterMap_cons]
                rcases List.mem_cons.mp ht with rfl | ht
                · have : (match e with | .Name id pos => if X.env.kindOf id == some .local && pos.line == l0 then some id else none | _ => none : Option Str) = none := by
                    cases e <;> first | rfl | skip
                    rename_i id pp
                    have hn : (!locL sc id) = true := hn
                    have : (X.env.kindOf id == some NameKind.local) = false := by
                      rw [kindOf_eq o]
                      unfold locL at hn
                      cases q : sc.names.lookup id with
                      | none => rfl
                      | some kk => rw [q] at hn; cases kk <;> first | rfl | cases hn
                    simp only [this, Bool.false_and]
                    rfl
                  rw [this]
                  have := List.length_filterMap_le (fun | .Name id pos => if X.env.kindOf id == some .local && pos.line == l0 then some id else none | _ => none : Expr → Option Str) ts
                  simp only [List.length_cons]
                  omega
                · have := ih ht
                  simp only [List.length_cons]
                  split
                  · omega
                  · simp only [List.length_cons]; omega
            exact gen _ ts he
          have : (swapNames X.env ts).length ≠ ts.length := by omega
          simpa using this
        rw [if_pos (by rw [key]; rfl)]
      · split at h <;> cases h
theorem sw_yes2 (o : XOk C F G N sc true X) (hk : sc.kind = .function) {x y : Str} {px py : Pos} {es : List Expr} {k k2 : Nat} {p p2 : Pos} (hp : ∀ e ∈ es, plainE e = true) (h : swB2 sc [.Name x px, .Name y py] es = some true) (hl : lines [.Name x px, .Name y py] = true) (hn : nodupS [.Name x px, .Name y py] = true) :
    swappedStores [.Tuple [.Name x px, .Name y py] k p] (.Tuple es k2 p2) X.env = pure (some [x, y]) ∧ sc.names.lookup x = some .local ∧ sc.names.lookup y = some .local := by
  rw [swapped_eq]
  obtain ⟨_, hb⟩ := ior_ok o hk
  unfold swB2 at h
  split at h <;> (try (cases h; done))
  rename_i c1
  split at h <;> (try (cases h; done))
  rename_i c2
  split at h <;> (try (cases h; done))
  rename_i c3
  split at h <;> (try (cases h; done))
  rename_i c4
  have c3 : (!locL sc x) = false ∧ (!locL sc y) = false := by simpa using c3
  have lx : locL sc x = true := by simpa using c3.1
  have ly : locL sc y = true := by simpa using c3.2
  have h1 := locL_ok lx
  have h2 := locL_ok ly
  have hline : (py.line == px.line) = true := by simpa [lines] using hl
  have hne : (y == x) = false := by simpa [nodupS] using hn
  have enames : swapNames X.env [.Name x px, .Name y py] = [x, y] := by
    unfold swapNames
    simp only [List.filterMap_cons, List.filterMap_nil, List.head?_cons, Option.map_some, Option.getD_some, Expr.pos, kindOf_eq o, h1, h2, hline, beq_self_eq_true, Bool.and_self, if_true]
  have edup : [x, y].eraseDups.length = 2 := by
    simp [List.eraseDups_cons, hne]
  rw [enames]
  have c1' : ¬ (!(([.Name x px, .Name y py] : List Expr).length == 2 || ([.Name x px, .Name y py] : List Expr).length == 3) || es.length != ([.Name x px, .Name y py] : List Expr).length || X.env.blockKind != .function) = true := by
    rw [hb]
    intro z
    apply c1
    simpa using z
  rw [if_neg c1', if_neg (by rw [starred_any hp]; decide), if_neg (by rw [edup]; exact Bool.false_ne_true), if_neg c2, if_neg c4]
  exact ⟨rfl, h1, h2⟩
theorem sw_yes3 (o : XOk C F G N sc true X) (hk : sc.kind = .function) {x y z : Str} {px py pz : Pos} {es : List Expr} {k k2 : Nat} {p p2 : Pos} (hp : ∀ e ∈ es, plainE e = true) (h : swB2 sc [.Name x px, .Name y py, .Name z pz] es = some true) (hl : lines [.Name x px, .Name y py, .Name z pz] = true) (hn : nodupS [.Name x px, .Name y py, .Name z pz] = true) :
    swappedStores [.Tuple [.Name x px, .Name y py, .Name z pz] k p] (.Tuple es k2 p2) X.env = pure (some [x, y, z]) ∧ sc.names.lookup x = some .local ∧ sc.names.lookup y = some .local ∧ sc.names.lookup z = some .local := by
  rw [swapped_eq]
  obtain ⟨_, hb⟩ := ior_ok o hk
  unfold swB2 at h
  split at h <;> (try (cases h; done))
  rename_i c1
  split at h <;> (try (cases h; done))
  rename_i c2
  split at h <;> (try (cases h; done))
  rename_i c3
  split at h <;> (try (cases h; done))
  rename_i c4
  have c3 : locL sc x = true ∧ locL sc y = true ∧ locL sc z = true := by simpa [and_assoc] using c3
  obtain ⟨lx, ly, lz⟩ := c3
  have h1 := locL_ok lx
  have h2 := locL_ok ly
  have h3 := locL_ok lz
  have hline : (py.line == px.line) = true ∧ (pz.line == px.line) = true := by simpa [lines] using hl
  have hne : ((y == x) = false ∧ (z == x) = false) ∧ (z == y) = false := by simpa [nodupS] using hn
  have enames : swapNames X.env [.Name x px, .Name y py, .Name z pz] = [x, y, z] := by
    unfold swapNames
    simp only [List.filterMap_cons, List.filterMap_nil, List.head?_cons, Option.map_some, Option.getD_some, Expr.pos, kindOf_eq o, h1, h2, h3, hline.1, hline.2, beq_self_eq_true, Bool.and_self, if_true]
  have edup : [x, y, z].eraseDups.length = 3 := by
    simp [List.eraseDups_cons, hne.1.1, hne.1.2, hne.2]
  rw [enames]
  have c1' : ¬ (!(([.Name x px, .Name y py, .Name z pz] : List Expr).length == 2 || ([.Name x px, .Name y py, .Name z pz] : List Expr).length == 3) || es.length != ([.Name x px, .Name y py, .Name z pz] : List Expr).length || X.env.blockKind != .function) = true := by
    rw [hb]
    intro z
    apply c1
    simpa using z
  rw [if_neg c1', if_neg (by rw [starred_any hp]; decide), if_neg (by rw [edup]; exact Bool.false_ne_true), if_neg c2, if_neg c4]
  exact ⟨rfl, h1, h2, h3⟩
end
end Mi

set_option Elab.async false
set_option linter.all false
set_option maxRecDepth 100000
set_option maxHeartbeats 4000000
/-! Mi15: statements that agree do the same: the theorem. -/
namespace Mi
open PySem PySem.Spec PyProof.Rows L2
section
variable {C : Ct} {F : Fns} {G : Gs} {N : List Str} {sc : Scope} {X : Cx}
theorem var_calm {md : Md} {i : Nat} {env : Env} {st : Store} : ev F md (.var i) env st = .bad ∨ ∃ x, ev F md (.var i) env st = .ok x st := by
  rw [ev]
  (repeat' split) <;> first | exact .inl rfl | exact .inr ⟨_, rfl⟩
theorem len_calm {md : Md} {i : Nat} {env : Env} {st : Store} : ev F md (.bi .len [.var i]) env st = .bad ∨ ∃ x, ev F md (.bi .len [.var i]) env st = .ok x st := by
  rw [ev, evs]
  rcases var_calm (F := F) (md := .read) (i := i) (env := env) (st := st) with h | ⟨x, h⟩
  · rw [h]; exact .inl rfl
  · rw [h]
    simp only [R.bind, evs]
    show R.of _ st = .bad ∨ ∃ x, R.of _ st = .ok x st
    cases biF .len ([x].map (res st)) with
    | none => exact .inl rfl
    | some d => exact .inr ⟨d, rfl⟩
theorem two_calm {md : Md} {i j : Nat} {env : Env} {st : Store} : ev F md (.cmp .eq (.bi .len [.var i]) (.bi .len [.var j])) env st = .bad ∨ ∃ x, ev F md (.cmp .eq (.bi .len [.var i]) (.bi .len [.var j])) env st = .ok x st := by
  rw [ev]
  rcases len_calm (F := F) (md := .read) (i := i) (env := env) (st := st) with h | ⟨x, h⟩
  · rw [h]; exact .inl rfl
  · rw [h]
    simp only [R.bind]
    rcases len_calm (F := F) (md := .read) (i := j) (env := env) (st := st) with h | ⟨y, h⟩
    · rw [h]; exact .inl rfl
    · rw [h]
      show R.of (cmp .eq (res st x) (res st y)) st = .bad ∨ ∃ z, R.of (cmp .eq (res st x) (res st y)) st = .ok z st
      cases cmp .eq (res st x) (res st y) with
      | none => exact .inl rfl
      | some d => exact .inr ⟨d, rfl⟩
theorem sl_frzIf {ss : List Stmt} {ms : List S} {m : S} (h2 : SL C F X ss ms) (hm : frzIf m = true) : SL C F X ss (m :: ms) := by
  unfold frzIf at hm
  split at hm <;> (try contradiction)
  rename_i i j k
  intro w0 w env σ st D E tk p h
  have e1 : ∀ r, exs F [S.frz k] env st = r → r = .next (match env[k]? with
    | some (.own d) => env.set k (.val d)
    | _ => env) st := by
    intro r hr
    rw [exs, ex] at hr
    subst hr
    cases env[k]? with
    | none => rfl
    | some s => cases s <;> rfl
  rw [exs, ex] at h
  rcases two_calm (F := F) (md := .read) (i := i) (j := j) (env := env) (st := st) with q | ⟨x, q⟩
  · rw [q] at h; exact h.elim
  · rw [q] at h
    cases x <;> first | exact h.elim | skip
    rename_i b
    cases b with
    | false => exact h2 w0 w env σ st D E tk p h
    | true =>
      refine sl_frz (i := k) h2 w0 w env σ st D E tk p ?_
      rw [exs, ex]
      have h' : SEnds C w0 w D E (match exs F [S.frz k] env st with | .next env st => exs F ms env st | r => r) := h
      rw [exs, ex] at h'
      cases z : env[k]? with
      | none => rw [z] at h'; exact h'
      | some s => rw [z] at h'; cases s <;> exact h'
theorem chkL_ok {ck : Stmt → S → Bool} (hck : ∀ s m, ck s m = true → SS C F X s m) : ∀ {ms : List S} {ss : List Stmt}, chkL ck ss ms = true → SL C F X ss ms
  | [], [], _ => sl_nil
  | [], _ :: _, h => by cases h
  | m :: ms, ss, h => by
    unfold chkL at h
    split at h
    · rename_i z
      exact sl_frzIf (chkL_ok hck h) z
    cases m
    case frz i => exact sl_frz (chkL_ok hck h)
    case bad => exact sl_bad
    all_goals
      cases ss with
      | nil => cases h
      | cons s ss =>
        obtain ⟨h1, h2⟩ := and2 h
        exact sl_cons (hck _ _ h1) (chkL_ok hck h2)
theorem nodup_ok : ∀ {is : List Nat}, nodupB is = true → is.Nodup
  | [], _ => List.nodup_nil
  | i :: is, h => by
    unfold nodupB at h
    obtain ⟨h1, h2⟩ := and2 h
    exact List.nodup_cons.mpr ⟨by simpa using h1, nodup_ok h2⟩
theorem aug_ok {o : Operator} {op : Op} (h : augB o op = true) : ∃ f, PIp X o (ipI f) ∧ ∀ a b, bin op (.int a) (.int b) = some (.int (f a b)) := by
  cases o <;> cases op <;> first | cases h | skip
  · exact ⟨_, ip_add, fun _ _ => rfl⟩
  · exact ⟨_, ip_sub, fun _ _ => rfl⟩
theorem names_cons {t : Expr} {ts : List Expr} {is : List Nat} (h : chkNames N sc (t :: ts) is = true) : ∃ x p i is', t = .Name x p ∧ is = i :: is' ∧ atB N i x = true ∧ chkNames N sc ts is' = true := by
  cases is with
  | nil => cases t <;> cases h
  | cons i is =>
    cases t <;> first | cases h | skip
    rename_i x p
    obtain ⟨h, h3⟩ := and2 (show (atB N i x && locB true sc x && chkNames N sc ts is) = true from h)
    exact ⟨x, p, i, is, rfl, rfl, (and2 h).1, h3⟩
theorem par_ss (o : XOk C F G N sc true X) (hk : sc.kind = .function) {ck : Ck} (ih : Ok3 C F sc X ck) {s : Stmt} {ios : List (Nat × Bool)} {ms : List E} (h : ckPar N ck sc s ios ms = true) : SS C F X s (.par ios ms) := by
  unfold ckPar at h
  split at h <;> (try contradiction)
  rename_i ts kt pt es k2 pt2 pos
  obtain ⟨h, h6⟩ := and2 h
  obtain ⟨h, h5⟩ := and2 h
  obtain ⟨h, h4⟩ := and2 h
  obtain ⟨h, h3⟩ := and2 h
  obtain ⟨h1, h2⟩ := and2 h
  unfold ckSw at h6
  have nm := chkNames_ok o h1
  obtain ⟨m1, m2, m3⟩ := chkM_ok o ih h3
  have hp := chkM_plain h3
  have h5 : ms.length = ts.length := by simpa using h5
  have nd := nodup_ok h2
  cases q : swB2 sc ts es with
  | none => rw [q] at h6; cases h6
  | some b =>
    rw [q] at h6
    cases b with
    | false =>
      have := ss_parG (F := F) (C := C) (pos := pos) o.calm nm (by simp) m1 h5 h4 (sw_no (k := kt) (k2 := k2) (p := pt) (p2 := pt2) o hk hp q)
      rw [zip_map] at this
      exact this
    | true =>
      obtain ⟨l1, l2⟩ := and2 h6
      have hlen : ts.length = 2 ∨ ts.length = 3 := by
        unfold swB2 at q
        split at q <;> (try (cases q; done))
        rename_i c
        have : (ts.length == 2 || ts.length == 3) = true := by
          cases hq : (ts.length == 2 || ts.length == 3) with
          | true => rfl
          | false => rw [hq] at c; exact absurd rfl c
        simpa using this
      have ndN : X.N.Nodup := by rw [o.Ne]; exact o.nd
      rcases hlen with hlen | hlen
      · match ts, hlen with
        | [t1, t2], _ =>
          obtain ⟨x, px, i, is, rfl, e1, a1, h1⟩ := names_cons h1
          obtain ⟨y, py, j, is, rfl, rfl, a2, h1⟩ := names_cons h1
          have eis : is = [] := by cases is <;> first | rfl | cases h1
          subst eis
          match ios, e1 with
          | [(i', o1), (j', o2)], e1 =>
            obtain ⟨ei, ej⟩ : i' = i ∧ j' = j := by simpa using e1
            subst ei ej
            match ms, h5, es, m3 with
            | [ma, mb], _, [a, b], _ =>
              obtain ⟨sw, lx, ly⟩ := sw_yes2 (k := kt) (k2 := k2) (p := pt) (p2 := pt2) o hk hp q l1 l2
              exact ss_par2 o.calm ndN (by rw [o.Ne]; exact at_ok a1) (by rw [o.Ne]; exact at_ok a2) (by simp at nd; exact nd) (by rw [o.se]; exact lx) (by rw [o.se]; exact ly) m1 sw
      · match ts, hlen with
        | [t1, t2, t3], _ =>
          obtain ⟨x, px, i, is, rfl, e1, a1, h1⟩ := names_cons h1
          obtain ⟨y, py, j, is, rfl, rfl, a2, h1⟩ := names_cons h1
          obtain ⟨z, pz, l, is, rfl, rfl, a3, h1⟩ := names_cons h1
          have eis : is = [] := by cases is <;> first | rfl | cases h1
          subst eis
          match ios, e1 with
          | [(i', o1), (j', o2), (l', o3)], e1 =>
            obtain ⟨ei, ej, el⟩ : i' = i ∧ j' = j ∧ l' = l := by simpa using e1
            subst ei ej el
            match ms, h5, es, m3 with
            | [ma, mb, mc], _, [a, b, c], _ =>
              obtain ⟨sw, lx, ly, lz⟩ := sw_yes3 (k := kt) (k2 := k2) (p := pt) (p2 := pt2) o hk hp q l1 l2
              simp at nd
              exact ss_par3 o.calm ndN (by rw [o.Ne]; exact at_ok a1) (by rw [o.Ne]; exact at_ok a2) (by rw [o.Ne]; exact at_ok a3) nd.1.1 nd.1.2 nd.2 (by rw [o.se]; exact lx) (by rw [o.se]; exact ly) (by rw [o.se]; exact lz) m1 sw
section
variable {ck : Ck} {s : Stmt}
theorem sev_ok {tg : Expr} (h : sevT tg = true) : ∃ es k p, tg = .Tuple es k p := by
  cases tg <;> first | exact ⟨_, _, _, rfl⟩ | cases h
theorem asgN_ok {n : Nat} (o : XOk C F G N sc true X) (hk : sc.kind = .function) (ihA : ∀ (sc : Scope) (top : Bool) (X : Cx), XOk C F G N sc top X → Ok3 C F sc X ck) {cx : Expr → E → Bool} (hx : ∀ e m, cx e m = true → SX C F X e m) {i : Nat} {me : E} (h : ckAsgN N n ck cx sc s i me = true) : SS C F X s (.asg (.name i) me) := by
  have ih := ihA sc true X o
  have ndN : X.N.Nodup := by rw [o.Ne]; exact o.nd
  unfold ckAsgN at h
  split at h <;> (try contradiction)
  rename_i x py e p
  obtain ⟨h, h3⟩ := and2 h
  obtain ⟨h1, h2⟩ := and2 h
  obtain ⟨l1, l2⟩ := loc_ok o h2
  have hi : X.N[i]? = some x := by rw [o.Ne]; exact at_ok h1
  unfold ckVal at h3
  split at h3
  · rename_i elt gens scope pos
    split at h3
    · rename_i hsw
      obtain ⟨tg, it, ifs, melt, vs, t, mit, mifs, rfl, rfl⟩ := lc_form h3
      obtain ⟨q1, q2, q3, q4, q5, q6, q7, q8⟩ := lc_parts o ihA h3
      have hl : X.env.scope.names.lookup x = some .local := by
        rw [o.se]
        unfold swB at hsw
        exact locL_ok (and2 (and2 hsw).1).1
      have := ss_setLc (pos := pos) (spos := p) (py := py) o.calm ndN hi hl (by rw [sw_eq o hk, hsw]) q1 q2 q3 q4 q5 q6 q7
      rw [q8] at this
      exact this
    · rename_i hsw
      exact ss_set ndN hi l1 l2 (hx _ _ h3) (by rw [sw_eq o hk]; rw [Bool.not_eq_true] at hsw; rw [hsw])
  · obtain ⟨a1, a2⟩ := and2 h3
    exact ss_set ndN hi l1 l2 (hx _ _ a2) (noComp_sw a1 _ _ _)
theorem asgT_ok {n : Nat} (o : XOk C F G N sc true X) {cx : Expr → E → Bool} (hx : ∀ e m, cx e m = true → SX C F X e m) {t : T} {me : E} (h : ckAsgT N n cx sc s t me = true) : SS C F X s (.asg t me) := by
  unfold ckAsgT at h
  split at h <;> (try contradiction)
  obtain ⟨h, h4⟩ := and2 h
  obtain ⟨h, h3⟩ := and2 h
  obtain ⟨h, h2⟩ := and2 h
  obtain ⟨h0, h1⟩ := and2 h
  obtain ⟨es, k, p, rfl⟩ := sev_ok h0
  exact ss_tupset (chkT_ok o n h3) (hx _ _ h4) h1 h2
theorem new_ok (o : XOk C F G N sc true X) (ih : Ok3 C F sc X ck) {i : Nat} {me : E} (h : ckFresh N ck sc s i me = true) : SS C F X s (.new i me) ∧ SS C F X s (.loc i me) := by
  have ndN : X.N.Nodup := by rw [o.Ne]; exact o.nd
  unfold ckFresh at h
  split at h <;> (try contradiction)
  obtain ⟨h, h4⟩ := and2 h
  obtain ⟨h, h3⟩ := and2 h
  obtain ⟨h1, h2⟩ := and2 h
  obtain ⟨l1, l2⟩ := loc_ok o h2
  exact ⟨ss_new ndN (by rw [o.Ne]; exact at_ok h1) l1 l2 (chkF_ok o ih h4) h3, ss_loc ndN (by rw [o.Ne]; exact at_ok h1) l1 l2 (chkF_ok o ih h4) h3⟩
theorem ret_ok {cx : Expr → E → Bool} (hx : ∀ e m, cx e m = true → SX C F X e m) {me : E} (h : ckRet cx s me = true) : SS C F X s (.ret me) := by
  unfold ckRet at h
  split at h <;> (try contradiction)
  exact ss_ret (hx _ _ h)
theorem expr_ok {cx : Expr → E → Bool} (hx : ∀ e m, cx e m = true → SX C F X e m) {me : E} (h : ckExpr cx s me = true) : SS C F X s (.expr me) := by
  unfold ckExpr at h
  split at h <;> (try contradiction)
  obtain ⟨h1, h2⟩ := and2 h
  exact ss_expr (hx _ _ h2) h1
theorem append_ok (o : XOk C F G N sc true X) (ih : Ok3 C F sc X ck) {i : Nat} {me : E} (h : ckMeth N ck sc "append" s i me = true) : SS C F X s (.append i me) := by
  unfold ckMeth at h
  split at h <;> (try contradiction)
  obtain ⟨h, h7⟩ := and2 h
  obtain ⟨h, h6⟩ := and2 h
  obtain ⟨h, h5⟩ := and2 h
  obtain ⟨h, h4⟩ := and2 h
  obtain ⟨h, h3⟩ := and2 h
  obtain ⟨h1, h2⟩ := and2 h
  have e1 := str_eq_of h1
  subst e1
  exact ss_append o.K (by rw [o.Ne]; exact at_ok h2) (by rw [o.se]; exact vis_ok h3) (okName_debug h4).1 (okName_debug h4).2.1 (ih.ex _ _ h7 .kept) h5 h6
theorem extend_ok (o : XOk C F G N sc true X) (ih : Ok3 C F sc X ck) {i : Nat} {me : E} (h : ckMeth N ck sc "extend" s i me = true) : SS C F X s (.extend i me) := by
  unfold ckMeth at h
  split at h <;> (try contradiction)
  obtain ⟨h, h7⟩ := and2 h
  obtain ⟨h, h6⟩ := and2 h
  obtain ⟨h, h5⟩ := and2 h
  obtain ⟨h, h4⟩ := and2 h
  obtain ⟨h, h3⟩ := and2 h
  obtain ⟨h1, h2⟩ := and2 h
  have e1 := str_eq_of h1
  subst e1
  exact ss_extend o.K (by rw [o.Ne]; exact at_ok h2) (by rw [o.se]; exact vis_ok h3) (okName_debug h4).1 (okName_debug h4).2.1 (ih.ex _ _ h7 .read) h5 h6
theorem setix_ok (o : XOk C F G N sc true X) (ih : Ok3 C F sc X ck) {i : Nat} {mi me : E} (h : ckSetix N ck sc s i mi me = true) : SS C F X s (.setix i mi me) := by
  unfold ckSetix at h
  split at h <;> (try contradiction)
  obtain ⟨h, h7⟩ := and2 h
  obtain ⟨h, h6⟩ := and2 h
  obtain ⟨h, h5⟩ := and2 h
  obtain ⟨h, h4⟩ := and2 h
  obtain ⟨h, h3⟩ := and2 h
  obtain ⟨h1, h2⟩ := and2 h
  exact ss_setix o.prg o.wd o.K o.un (by rw [o.Ne]; exact at_ok h1) (by rw [o.se]; exact vis_ok h2) (okName_debug h3).1 (okName_debug h3).2.1 (ih.ex _ _ h6 .kept) (ih.ex _ _ h7 .kept) h4 h5
theorem augs_ok (o : XOk C F G N sc true X) (ih : Ok3 C F sc X ck) {i : Nat} {op : Op} {me : E} (h : ckAug N ck sc s i op me = true) : SS C F X s (.aug i op me) := by
  have ndN : X.N.Nodup := by rw [o.Ne]; exact o.nd
  unfold ckAug at h
  split at h <;> (try contradiction)
  obtain ⟨h, h4⟩ := and2 h
  obtain ⟨h, h3⟩ := and2 h
  obtain ⟨h1, h2⟩ := and2 h
  obtain ⟨l1, l2⟩ := loc_ok o h2
  obtain ⟨f, f1, f2⟩ := aug_ok (X := X) h3
  exact ss_aug ndN (by rw [o.Ne]; exact at_ok h1) l1 l2 f1 f2 (ih.ex _ _ h4 .kept)
section
variable {cs : Stmt → S → Bool} (hcs : ∀ s m, cs s m = true → SS C F X s m)
include hcs
theorem if_ok (ih : Ok3 C F sc X ck) {mt : E} {ma mb : List S} (h : ckIf ck cs sc s mt ma mb = true) : SS C F X s (.ite mt ma mb) := by
  unfold ckIf at h
  split at h <;> (try contradiction)
  obtain ⟨h, h3⟩ := and2 h
  obtain ⟨h1, h2⟩ := and2 h
  exact ss_if (ih.ts _ _ h1) (chkL_ok hcs h2) (chkL_ok hcs h3)
theorem for_ok {n : Nat} (o : XOk C F G N sc true X) (ih : Ok3 C F sc X ck) {t : T} {mit : E} {mb : List S} (h : ckFor N n ck cs sc s t mit mb = true) : SS C F X s (.for_ t mit mb) := by
  unfold ckFor at h
  split at h <;> (try contradiction)
  obtain ⟨h, h4⟩ := and2 h
  obtain ⟨h, h3⟩ := and2 h
  obtain ⟨h1, h2⟩ := and2 h
  exact ss_for o.po o.calm (ih.it _ _ _ _ h2 sev_ok .walk (.inr rfl)) (chkT_ok o n h3) (chkL_ok hcs h4) (fun x => noset_ok h1 _ x) (ih.lo _ _ _ h2)
theorem while_ok (o : XOk C F G N sc true X) (ih : Ok3 C F sc X ck) {mt : E} {mb : List S} (h : ckWhile ck cs sc s mt mb = true) : SS C F X s (.while_ mt mb) := by
  unfold ckWhile at h
  split at h <;> (try contradiction)
  obtain ⟨h1, h2⟩ := and2 h
  exact ss_while o.po (ih.ts _ _ h1) (chkL_ok hcs h2)
end
end
theorem chkS_okA (hk : sc.kind = .function) : ∀ (n : Nat) (X : Cx), XOk C F G N sc true X → ∀ (s : Stmt) (m : S), chkS G N sc n s m = true → SS C F X s m
  | 0, _, _, _, _, h => by cases h
  | n + 1, X, o, s, m, h => by
    have ihA : ∀ (sc : Scope) (top : Bool) (X : Cx), XOk C F G N sc top X → Ok3 C F sc X (chk G N n) := fun sc top X o => chk_ok n sc top X o
    have ih := ihA sc true X o
    have hcs := chkS_okA hk n X o
    have hx := chkX_ok o ih n
    unfold chkS at h
    cases m <;> first | contradiction | skip
    case asg t me =>
      cases t with
      | name i => exact asgN_ok o hk ihA hx h
      | tup ts => exact asgT_ok o hx h
    case par ios ms => exact par_ss o hk ih h
    case new i me => exact (new_ok o ih h).1
    case loc i me => exact (new_ok o ih h).2
    case ret me => exact ret_ok hx h
    case ite mt ma mb => exact if_ok hcs ih h
    case for_ t mit mb => exact for_ok hcs o ih h
    case while_ mt mb => exact while_ok hcs o ih h
    case expr me => exact expr_ok hx h
    case append i me => exact append_ok o ih h
    case extend i me => exact extend_ok o ih h
    case setix i mi me => exact setix_ok o ih h
    case aug i op me => exact augs_ok o ih h
    case bad => exact ss_bad
    case raise_ k =>
      have h : ckRaise G sc s k = true := h
      unfold ckRaise at h
      split at h <;> (try contradiction)
      obtain ⟨h, h3⟩ := and2 h
      obtain ⟨h1, h2⟩ := and2 h
      have q := o.errs _ k (by simpa using h1)
      exact ss_raise o.calm q.ex q.mg q.kp (raises_own q.sb q.ty) (gl_ok o h2) (okName_debug h3).1
    case pass =>
      have h : ckPass s = true := h
      unfold ckPass at h
      split at h <;> (try contradiction)
      exact ss_pass
    case setfld i g me =>
      have h : ckSetf G N (chk G N n) sc s i g me = true := h
      unfold ckSetf at h
      split at h <;> (try contradiction)
      obtain ⟨h, h6⟩ := and2 h
      obtain ⟨h, h5⟩ := and2 h
      obtain ⟨h, h4⟩ := and2 h
      obtain ⟨h, h3⟩ := and2 h
      obtain ⟨h1, h2⟩ := and2 h
      exact ss_setfld (o.fls _ 0 _ (by simpa using h4)) o.one (by rw [o.Ne]; exact at_ok h1) (by rw [o.se]; exact vis_ok h2) (okName_debug h3).1 (okName_debug h3).2.1 (ih.ex _ _ h6 .kept) h5
    case appendAt mo me =>
      have h : ckAppA (chk G N n) sc s mo me = true := h
      unfold ckAppA at h
      split at h <;> (try contradiction)
      obtain ⟨h, h6⟩ := and2 h
      obtain ⟨h, h5⟩ := and2 h
      obtain ⟨h, h4⟩ := and2 h
      obtain ⟨h, h3⟩ := and2 h
      obtain ⟨h1, h2⟩ := and2 h
      have e1 := str_eq_of h1
      subst e1
      exact ss_appendAt (ih.ex _ _ h5 .kept) (ih.ex _ _ h6 .kept) h4 (obB_ok h2 _ _) h3
    case tryw i mb =>
      have h : ckTry G N (chkS G N sc n) sc s i mb = true := h
      unfold ckTry at h
      split at h <;> (try contradiction)
      obtain ⟨h, h10⟩ := and2 h
      obtain ⟨h, h9⟩ := and2 h
      obtain ⟨h, h8⟩ := and2 h
      obtain ⟨h, h7⟩ := and2 h
      obtain ⟨h, h6⟩ := and2 h
      obtain ⟨h, h5⟩ := and2 h
      obtain ⟨h, h4⟩ := and2 h
      obtain ⟨h, h3⟩ := and2 h
      obtain ⟨h1, h2⟩ := and2 h
      have e1 := str_eq_of h2
      have e2 := str_eq_of h3
      have e3 := str_eq_of h4
      subst e1 e2 e3
      refine ss_try (o.wh rfl h1) o.K (by rw [o.Ne]; exact o.nd) (by rw [o.Ne]; exact at_ok h5) ?_ (gl_ok o h8) (gl_ok o h9) (okName_debug h7).1 (okName_debug h7).2.1 (fun pn xe po => chkL_ok (chkS_okA hk n _ (o.tr pn xe po)) h10)
      unfold locL at h6
      show X.env.scope.names.lookup _ = _
      rw [o.se]
      split at h6 <;> (try contradiction)
      assumption
theorem chkS_ok (o : XOk C F G N sc true X) (hk : sc.kind = .function) (n : Nat) : ∀ (s : Stmt) (m : S), chkS G N sc n s m = true → SS C F X s m := chkS_okA hk n X o
end
end Mi

set_option Elab.async false
set_option linter.all false
set_option maxRecDepth 100000
set_option maxHeartbeats 1000000
/-! Mi16: whole defs. -/
namespace Mi
open PySem PySem.Spec PyProof.Rows L2

/-! ### a def held against a def of the small language -/
def nodupN : List Str → Bool
  | [] => true
  | x :: xs => !xs.contains x && nodupN xs
theorem nodupN_ok : ∀ {l : List Str}, nodupN l = true → l.Nodup
  | [], _ => List.nodup_nil
  | x :: xs, h => by
    unfold nodupN at h
    obtain ⟨h1, h2⟩ := and2 h
    refine List.nodup_cons.mpr ⟨fun z => ?_, nodupN_ok h2⟩
    have : xs.contains x = true := List.contains_iff_mem.mpr z
    rw [this] at h1
    cases h1
def kindF : ScopeKind → Bool
  | .function => true
  | _ => false
def isFree : NameKind → Bool
  | .free => true
  | _ => false
def scopeB (N ps : List Str) (sc : Scope) : Bool := kindF sc.kind && !sc.isCoroutine && !sc.isGenerator && nodupN N && (N.take ps.length == ps) && (ps.all fun x => locB true sc x) && sc.names.all fun y => !isFree y.2
theorem scope_ok {N ps : List Str} {sc : Scope} (h : scopeB N ps sc = true) : FnScope N ps sc := by
  unfold scopeB at h
  obtain ⟨h, h7⟩ := and2 h
  obtain ⟨h, h6⟩ := and2 h
  obtain ⟨h, h5⟩ := and2 h
  obtain ⟨h, h4⟩ := and2 h
  obtain ⟨h, h3⟩ := and2 h
  obtain ⟨h1, h2⟩ := and2 h
  refine ⟨?_, by simpa using h2, by simpa using h3, nodupN_ok h4, eq_of_beq h5, fun x hx => ?_, fun y hy e => ?_⟩
  · cases q : sc.kind <;> rw [q] at h1 <;> first | rfl | cases h1
  · have := List.all_eq_true.mp h6 x hx
    unfold locB at this
    cases q : sc.names.lookup x with
    | none => rw [q] at this; cases this
    | some k => rw [q] at this; cases k <;> first | exact .inl rfl | exact .inr rfl | cases this
  · have := List.all_eq_true.mp h7 y hy
    rw [e] at this
    cases this
def chkDef (G : Gs) (N ps : List Str) (sc : Scope) (body : List Stmt) (d : Def) (n : Nat) : Bool := scopeB N ps sc && Nat.beq d.pars ps.length && Nat.beq d.slots N.length && chkL (chkS G N sc n) body d.body

/-! ### the def that tells which error was caught -/
def whDef (sc : Scope) (body : List Stmt) : Bool := scopeB [("e" : Str), ("own" : Str)] [("e" : Str)] sc && locB true sc "own" && locB true sc "e" && (("isinstance" : Str) :: ("ValueError" : Str) :: errNames).all (fun x => glB sc x) && whB body
theorem vis_loc {sc : Scope} {x : Str} (h : locB true sc x = true) : Vis sc x ∧ Loc sc x := by
  unfold locB at h
  unfold L2.Loc
  cases q : sc.names.lookup x with
  | none => rw [q] at h; cases h
  | some k => rw [q] at h; cases k <;> first | exact ⟨.inl q, .inl rfl⟩ | exact ⟨.inr (.inl q), .inr rfl⟩ | cases h
theorem gl_sc {sc : Scope} {X : Cx} {x : Str} (hs : X.env.scope = sc) (h : glB sc x = true) : Gl X x := by
  unfold glB at h
  show X.env.kindOf x = _
  unfold PySem.Env.kindOf
  rw [hs]
  cases q : sc.names.lookup x with
  | none => rw [q] at h; cases h
  | some k => rw [q] at h; cases k <;> first | rfl | cases h
theorem which_fn {P : Program} {w : World} {K : PySem.W.Frag} {mg : Str → Option Value} {base : Heap} {xa : Nat → Addr} {k : Nat} {f : Addr} {x' qual : Str} {params : Arguments} {body : List Stmt} {sc : Scope} {fd : FuncData} (hk : k < 13) (wk : WhK K xa) (hx : ∀ (j : Nat) (x : Str), errNames[j]? = some x → mg x = some (.ref (xa j))) (hi : mg "isinstance" = none) (hv : mg "ValueError" = none)
    (hf : FunD K x' qual params body sc [] [] f fd) (hb : whDef sc body = true) : FnZ (ZW xa k) P w K mg base (L2.CX P w) 1 f fd [("e" : Str)] (spW k) := by
  obtain ⟨oc, od, dV, kV, doc, pm, an, cdv, ct, osl, rfl, lk, hcd, _, _⟩ := hf.ex
  unfold whDef at hb
  obtain ⟨hb, h5⟩ := and2 hb
  obtain ⟨hb, h4⟩ := and2 hb
  obtain ⟨hb, h3⟩ := and2 hb
  obtain ⟨h1, h2⟩ := and2 hb
  have hs := scope_ok h1
  have hg := List.all_eq_true.mp h4
  refine fn_ofZ (k := 0) lk hcd hs (fun p vs H Q E z => by rw [z.1]; rfl) fun A outer s H vs Q E p hz hr hsp => ?_
  obtain ⟨rfl, hq⟩ := hsp
  exact which_ok (X := L2H.cxH (L2.CX P w) P w K mg base [("e" : Str), ("own" : Str)] qual sc f cdv A outer s H E p) (xa := xa) (k := k) (a := p.1) (oe := p.2) ⟨wk, hk, List.mem_singleton.mpr rfl, hz.1, hz.2, rfl, (vis_loc h3).1, (vis_loc h2).1, (vis_loc h2).2, rfl, gl_sc rfl (hg _ List.mem_cons_self), hi, gl_sc rfl (hg _ (List.mem_cons_of_mem _ List.mem_cons_self)), hv, fun j x hj => ⟨gl_sc rfl (hg x (List.mem_cons_of_mem _ (List.mem_cons_of_mem _ (List.mem_of_getElem? hj)))), hx j x hj⟩⟩ h5 hq
/-- what the head of the module leaves -/
structure Hd (P : Program) (w : World) (K : PySem.W.Frag) (mg : Str → Option Value) (C : Ct) (G : Gs) (Pr : Prog) : Prop where
  hP : P = C.P
  hW : w = C.W
  hK : K = C.K
  errs : ∀ x k, (x, k) ∈ G.errs → mg x = some (.ref (C.xa k)) ∧ PySem.W.excIn K (C.xa k) [.type "ValueError", .type "Exception", .type "BaseException", .type "object"] "ValueError.__new__" = true ∧ PySem.W.keepIn K (.ref (C.xa k)) = true ∧ PySem.W.subIn K (.ref (C.xa k)) (.type "BaseException") = some true ∧ PySem.W.typeIn K (.ref (C.xa k)) = some (.type "type")
  blt : ∀ x ∈ blts, mg x = none
  con : ∀ x d, lookD x G.cons = some d → ∃ v u, mg x = some u ∧ RelV v u ∧ ∀ w, RV C w v d
  defs : ∀ f d, Pr.fn f = some d → ∃ (x' qual : Str) (params : Arguments) (body : List Stmt) (sc : Scope) (fd : FuncData) (N ps : List Str) (n : Nat),
    FunD K x' qual params body sc [] [] (C.fa f) fd ∧ L2.Binds K fd ps [] ∧ chkDef G N ps sc body d n = true
  fns : ∀ x f, (x, f) ∈ G.fns → mg x = some (.ref (C.fa f)) ∧ ∃ d, Pr.fn f = some d
  cls : ∀ x c f, (x, c, f) ∈ G.clss → mg x = some (.ref (C.ca c)) ∧ Mk K (C.ca c) (C.fa f) ∧ (∃ d, Pr.fn f = some d) ∧ Cls K (C.ca c) ∧ PySem.W.findIn K (.ref (C.ca c)) "__class__" = some (some (.builtin "object.__class__")) ∧ PySem.W.specialIn K (.builtin "object.__class__") "__get__" = some (some (.builtin "getset_descriptor.__get__")) ∧ PySem.W.takesIn K (.builtin "object.__class__") = some true ∧ PySem.W.mroIn K (C.ca c) (.type "object") = some true ∧ PySem.W.kitOne K (.ref (C.ca c)) (.ref (C.ca c)) = some true ∧ PySem.W.kitOne K (.type "str") (.ref (C.ca c)) = some false
  mts : ∀ m c f, (m, c, f) ∈ G.mts → Cls K (C.ca c) ∧ Meth K (C.ca c) m (C.fa f) ∧ (∃ d, Pr.fn f = some d) ∧ (∀ g, g < 4 → C.fname g ≠ m) ∧ PySem.W.subIn K (.type "str") (.ref (C.ca c)) = some false
  fls : ∀ n c g, (n, c, g) ∈ G.flds → Cls K (C.ca c) ∧ NoAttr K (C.ca c) n ∧ C.fname g = n ∧ g < 4 ∧ ∀ g', g' < 4 → C.fname g' = n → g' = g
  one : ∀ a b, C.ca a = C.ca b
  wh : G.wh = true → (∃ c : Addr, mg "AskError" = some (.ref c) ∧ ∀ k, k < 13 → PySem.W.exmOne K (.ref (C.xa k)) (.ref c) = some true) ∧ WhK K C.xa ∧ (∀ (j : Nat) (x : Str), errNames[j]? = some x → mg x = some (.ref (C.xa j))) ∧
    ∃ (f : Addr) (x' qual : Str) (params : Arguments) (body : List Stmt) (sc : Scope) (fd : FuncData), mg "_law_which" = some (.ref f) ∧ FunD K x' qual params body sc [] [] f fd ∧ L2.Binds K fd [("e" : Str)] [] ∧ whDef sc body = true
theorem start_er {C : Ct} {w : Wd} {N : List Str} {vs : List V} {ds : List D} {d : Def} (hl : d.slots = N.length) (h : RVs C w vs ds) (hle : ds.length ≤ N.length) : EnvR C w (start d ds) (L2.start N vs) := by
  have len := h.length
  refine ⟨?_, fun i s o e1 e2 => ?_, fun i j s s' o e1 e2 o1 => ?_⟩
  · unfold start L2.start
    simp [len, hl]
  · unfold start at e1
    unfold L2.start at e2
    by_cases hi : i < ds.length
    · rw [List.getElem?_append_left (by simpa using hi), List.getElem?_map] at e1
      rw [List.getElem?_append_left (by simpa [len] using hi), List.getElem?_map] at e2
      cases q : ds[i]? with
      | none => rw [q] at e1; cases e1
      | some dd =>
        rw [q] at e1
        cases e1
        cases q2 : vs[i]? with
        | none => rw [q2] at e2; cases e2
        | some vv =>
          rw [q2] at e2
          cases e2
          obtain ⟨d2, e3, r⟩ := h.getV q2
          rw [q] at e3
          cases e3
          exact ⟨vv, rfl, r⟩
    · rw [List.getElem?_append_right (by simpa using hi), List.getElem?_replicate] at e1
      split at e1
      · cases e1; trivial
      · cases e1
  · exfalso
    unfold start at e1
    by_cases hi : i < ds.length
    · rw [List.getElem?_append_left (by simpa using hi), List.getElem?_map] at e1
      cases q : ds[i]? with
      | none => rw [q] at e1; cases e1
      | some dd => rw [q] at e1; cases e1; cases o1
    · rw [List.getElem?_append_right (by simpa using hi), List.getElem?_replicate] at e1
      split at e1
      · cases e1; cases o1
      · cases e1
section
variable {P : Program} {w : World} {K : PySem.W.Frag} {mg : Str → Option Value} {base : Heap} {C : Ct} {G : Gs} {Pr : Prog}
theorem def_ok (hd : Hd P w K mg C G Pr) {k : Nat} (IH : ∀ f d, Pr.fn f = some d → PySem.W.keepIn K (.ref (C.fa f)) = true ∧ ∃ fd ps, L2.Binds K fd ps [] ∧ FnOk P w K mg base (L2.CX P w) (3 * k + 1) (C.fa f) fd ps (spF C (run Pr k) f))
    {f : Nat} {d : Def} {x' qual : Str} {params : Arguments} {body : List Stmt} {sc : Scope} {fd : FuncData} {N ps : List Str} {n : Nat}
    (hf : FunD K x' qual params body sc [] [] (C.fa f) fd) (hp : Pr.fn f = some d) (hc : chkDef G N ps sc body d n = true) : FnOk P w K mg base (L2.CX P w) (3 * (k + 1) + 1) (C.fa f) fd ps (spF C (run Pr (k + 1)) f) := by
  unfold chkDef at hc
  obtain ⟨hc, h4⟩ := and2 hc
  obtain ⟨hc, h3⟩ := and2 hc
  obtain ⟨h1, h2⟩ := and2 hc
  have hs := scope_ok h1
  have h2 : d.pars = ps.length := Nat.eq_of_beq_eq_true h2
  have h3 : d.slots = N.length := Nat.eq_of_beq_eq_true h3
  have hfn : ∀ ds st, (run Pr (k + 1)).fn f ds st = callDef (run Pr k) d ds st := fun ds st => by
    show (match Pr.fn f with | some d => callDef (run Pr k) d ds st | none => .bad) = _
    rw [hp]
  have hlen : ∀ vs H Q E, spF C (run Pr (k + 1)) f vs H Q E → vs.length = ps.length := by
    intro vs H Q E h
    obtain ⟨w, st, ds, e, ok, sr, r, ee⟩ := h
    rw [hfn] at ee
    unfold callDef at ee
    split at ee
    · rename_i q
      rw [r.length, ← h2]
      exact eq_of_beq q
    · exact ee.elim
  have hpl : ps.length ≤ N.length := by
    have := congrArg List.length hs.pre
    rw [List.length_take] at this
    omega
  refine hf.ok hs hlen fun cdv A outer s H vs Q E hr hsp => ?_
  have hvl := hlen _ _ _ _ hsp
  obtain ⟨w1, st, ds, rfl, ok, sr, r, ee⟩ := hsp
  rw [hfn] at ee
  unfold callDef at ee
  rw [if_pos (by rw [← r.length, hvl, h2]; exact beq_self_eq_true _)] at ee
  refine ⟨_, pss_tSs, ?_⟩
  have fat : ∀ x g, (x, g) ∈ G.fns → FnAt C (run Pr k) (cxOf (L2.CX P w) P w K mg base N qual sc (C.fa f) cdv A outer s w1.H E) x g := fun x g hg => by
    obtain ⟨m1, d', g3⟩ := hd.fns x g hg
    obtain ⟨kp, fd2, ps2, b2, f2⟩ := IH g d' g3
    exact ⟨m1, kp, 3 * k + 1, fd2, ps2, hr.mono (by omega), b2, f2⟩
  have fkn : ∀ g d, Pr.fn g = some d → FnK C (run Pr k) (cxOf (L2.CX P w) P w K mg base N qual sc (C.fa f) cdv A outer s w1.H E) g := fun g d hg => by
    obtain ⟨kp, fd2, ps2, b2, f2⟩ := IH g d hg
    exact ⟨3 * k + 1, fd2, ps2, hr.mono (by omega), b2, f2⟩
  have o : XOk C (run Pr k) G N sc true (cxOf (L2.CX P w) P w K mg base N qual sc (C.fa f) cdv A outer s w1.H E) := by
    refine ⟨hd.hK, rfl, passes_of rfl, hd.hP, hd.hW, hs.nd, rfl, rfl, ?_, hd.blt, fun x g hg => fat x g hg, fun x k hx => ?_, hd.con, fun _ _ => rfl, fun _ hw => ?_, fun g ds st hg => ?_, fun x c g hx => ?_, fun m c g hx => ?_, fun n c g hx => ?_, hd.one, fun c g hx => (hd.mts _ c g hx).2.2.2.2⟩
    · have := hr.un
      show (A.deeper (envOfC qual sc s.heap.objs.size (C.fa f) cdv)).units + 65 < cLine
      omega
    · obtain ⟨e1, e2, e3, e4, e5⟩ := hd.errs x k hx
      exact ⟨e1, e2, e3, e4, e5⟩
    · obtain ⟨w1, w2, w3, fw, x2, q2, p2, b2, s2, fd2, w4, w5, w6, w7⟩ := hd.wh hw
      exact ⟨rfl, rfl, w1, ⟨fw, fd2, w4, w5.kp, w6, fun j hj => which_fn hj w2 w3 (hd.blt _ (by decide +kernel)) (hd.blt _ (by decide +kernel)) w5 w7⟩, L2H.RoomH.mono (L2H.roomH_of hr) (by omega)⟩
    · cases k with
      | zero => exact absurd rfl hg
      | succ k =>
        cases q : Pr.fn g with
        | none =>
          refine absurd ?_ hg
          show (match Pr.fn g with | some d => callDef (run Pr k) d ds st | none => .bad) = _
          rw [q]
        | some d =>
          obtain ⟨kp, fd2, ps2, b2, f2⟩ := IH g d q
          exact ⟨kp, 3 * (k + 1) + 1, fd2, ps2, hr.mono (by omega), b2, f2⟩
    · obtain ⟨q1, q2, ⟨d', q3⟩, q4, q5, q6, q7, q8, q9, q10⟩ := hd.cls x c g hx
      exact ⟨⟨q1, q2, fkn g d' q3⟩, ⟨q1, q4, q5, q6, q7, q8, q9, q10⟩⟩
    · obtain ⟨q1, q2, ⟨d', q3⟩, q4, q5⟩ := hd.mts m c g hx
      exact ⟨q1, q2, fkn g d' q3, q4⟩
    · obtain ⟨q1, q2, q3, q4, q5⟩ := hd.fls n c g hx
      exact ⟨q1, q2, q3, q4, q5⟩
  have sl := chkL_ok (fun s m h => chkS_ok o hs.kind n s m h) h4
  refine sl w1 w1 (start d ds) (L2.start N vs) st _ E (takes_of rfl rfl rfl rfl) ⟨Ext.refl ok, start_er h3 r (by rw [← r.length, hvl]; exact hpl), sr, fun i s a e1 o1 => ?_⟩ ?_
  · exfalso
    unfold start at e1
    by_cases hi : i < ds.length
    · rw [List.getElem?_append_left (by simpa using hi), List.getElem?_map] at e1
      cases q : ds[i]? with
      | none => rw [q] at e1; cases e1
      | some dd => rw [q] at e1; cases e1; cases o1
    · rw [List.getElem?_append_right (by simpa using hi), List.getElem?_replicate] at e1
      split at e1
      · cases e1; cases o1
      · cases e1
  · cases q : exs (run Pr k) d.body (start d ds) st with
    | next env' st1 =>
      rw [q] at ee
      intro w' σ' p l
      obtain ⟨w2, e2, x2, s2, r2⟩ := cut_ok (v := .non) (d := .non) sr p.x p.sr .non
      show Q .non w'.H
      rw [← e2]
      exact ee _ _ x2 s2 r2
    | ret dd' st1 =>
      rw [q] at ee
      intro v w' x1 s1 r1
      obtain ⟨w2, e2, x2, s2, r2⟩ := cut_ok sr x1 s1 r1
      show Q v w'.H
      rw [← e2]
      exact ee _ _ x2 s2 r2
    | err c st1 =>
      rw [q] at ee
      intro w' x1 s1
      obtain ⟨w2, e2, x2, s2, r2⟩ := cut_ok (v := .non) (d := .non) sr x1 s1 .non
      rw [← e2]
      exact ee _ x2 s2
    | bad => rw [q] at ee; exact ee.elim
theorem defs_ok (hd : Hd P w K mg C G Pr) : ∀ (k : Nat) (f : Nat) (d : Def), Pr.fn f = some d → PySem.W.keepIn K (.ref (C.fa f)) = true ∧ ∃ fd ps, L2.Binds K fd ps [] ∧ FnOk P w K mg base (L2.CX P w) (3 * k + 1) (C.fa f) fd ps (spF C (run Pr k) f)
  | 0, f, d, h => by
    obtain ⟨x', qual, params, body, sc, fd, N, ps, n, h1, h2, h4⟩ := hd.defs f d h
    have no : ∀ vs H Q E, ¬ spF C (run Pr 0) f vs H Q E := fun vs H Q E ⟨_, _, _, _, _, _, _, ee⟩ => ee.elim
    exact ⟨h1.kp, fd, ps, h2, fun vs H Q E z => (no _ _ _ _ z).elim, fun A outer s H args us vs Q E _ _ _ _ z => (no _ _ _ _ z).elim⟩
  | k + 1, f, d, h => by
    obtain ⟨x', qual, params, body, sc, fd, N, ps, n, h1, h2, h4⟩ := hd.defs f d h
    exact ⟨h1.kp, fd, ps, h2, def_ok hd (fun f d h => defs_ok hd k f d h) h1 h h4⟩
end
end Mi

set_option Elab.async false
set_option linter.all false
set_option maxRecDepth 100000
set_option maxHeartbeats 1000000
/-! Mi17: the head of a law's module, the law's end. -/
namespace Mi
open PySem PySem.Spec PyProof.Rows L2

/-- a statement of a class's body -/
def cst (s : Stmt) (i : Nat) : Stmt := match s with
  | .ClassDef _ _ _ body _ _ _ _ _ _ _ => body.getD i (.Pass ⟨0, 0, 0, 0⟩)
  | s => s
/-- a def of the module: its name, its number, its statement, its local names, its parameters, its text in the small language -/
structure DI where
  name : Str
  num : Nat
  st : Stmt
  N : List Str
  ps : List Str
  d : Def
  own : Option Str
  qual : Str
/-- an error class of the module: its name, its number -/
structure EI where
  name : Str
  num : Nat
inductive Co where
  | int (x : Str) (i : Int)
  | str (x z : Str)
def Co.name : Co → Str
  | .int x _ => x
  | .str x _ => x
def Co.d : Co → D
  | .int _ i => .int i
  | .str _ z => .str z.cps.toList
def Co.fa : Co → He.Fa
  | .int x i => .int x i
  | .str x z => .str x z
def fldN : List Str := ["game", "thing", "put", "floor"]
def dAt (d : DI) : Str × Option Str := match d.own with
  | none => (d.name, none)
  | some c => (c, some d.name)
def dFa (d : DI) : He.Fa := match d.own with
  | none => .glo d.name
  | some c => .meth c d.name
def clF (x : Str) : List He.Fa := [.glo x, .cls x, .mkr x] ++ fldN.map (fun f => .noat x f)
def faO (ds : List DI) (cs : List Co) (es : List EI) (cl : List Str) : List He.Fa := ds.map dFa ++ (blts.map (fun x => .free x) ++ (cs.map Co.fa ++ (es.map (fun e => .glo e.name) ++ (es.map (fun e => .exc e.name) ++ cl.flatMap clF))))
def fnO (ds : List DI) : List He.DefD := ds.map fun d => ⟨dAt d, d.name, d.qual, defArgs d.st, defBody d.st, defScope d.st, [], []⟩
def gFn (d : DI) : Option (Str × Nat) := match d.own with
  | none => some (d.name, d.num)
  | some _ => none
def gMt (d : DI) : Option (Str × Nat × Nat) := match d.own with
  | none => none
  | some _ => some (d.name, 0, d.num)
def fldG (cl : List Str) : List (Str × Nat × Nat) := match cl with
  | [] => []
  | _ :: _ => [("game", 0, 0), ("thing", 0, 1), ("put", 0, 2), ("floor", 0, 3)]
def gsO (ds : List DI) (cs : List Co) (es : List EI) (wh : Bool) (cl : List Str) : Gs := ⟨ds.filterMap gFn, cs.map fun c => (c.name, c.d), es.map fun e => (e.name, e.num), wh, cl.map fun x => (x, 0, 120), ds.filterMap gMt, fldG cl⟩
def isNone : Option Str → Bool
  | none => true
  | _ => false
def isPlay : Option Str → Bool
  | some c => c == ("Play" : Str)
  | none => false
def clB (ds : List DI) (cl : List Str) : Bool := (ds.all fun d => isNone d.own || (isPlay d.own && cl.contains ("Play" : Str) && !fldN.contains d.name)) && cl.all fun x => x == ("Play" : Str) && ds.any fun d => isPlay d.own && d.name == ("__init__" : Str) && Nat.beq d.num 120
def errOf (es : List EI) (n : Nat) : Str := ((es.find? fun d => Nat.beq d.num n).map (·.name)).getD Str.empty
def adOf (ds : List DI) (K : PySem.W.Frag) (n : Nat) : Addr := match ds.find? fun d => Nat.beq d.num n with
  | some d => He.fAd K (dAt d)
  | none => 0
def ctO (ds : List DI) (es : List EI) (P : Program) (w : World) (K : PySem.W.Frag) : Ct := ⟨P, w, K, fun n => adOf ds K n, fun _ => He.ga K "Play", fun n => He.ga K (errOf es n), fun g => fldN.getD g "game"⟩
def prO (ds : List DI) : Prog := { fn := fun n => (ds.find? fun d => Nat.beq d.num n).map (·.d) }
def errsB : List EI → Bool
  | [] => true
  | d :: ds => (ds.all fun e => !(Nat.beq e.num d.num)) && errsB ds
theorem find_err : ∀ {ds : List EI} {d : EI}, errsB ds = true → d ∈ ds → ds.find? (fun e => Nat.beq e.num d.num) = some d
  | [], _, _, h => by cases h
  | e :: ds, d, hn, h => by
    unfold errsB at hn
    obtain ⟨h1, h2⟩ := and2 hn
    rw [List.find?_cons]
    rcases List.mem_cons.mp h with rfl | h
    · rw [Nat.beq_refl]
    · have := List.all_eq_true.mp h1 d h
      have z : Nat.beq e.num d.num = false := by
        cases q : Nat.beq e.num d.num with
        | false => rfl
        | true =>
          have e1 := Nat.eq_of_beq_eq_true q
          rw [e1, Nat.beq_refl] at this
          cases this
      rw [z]
      exact find_err h2 h
def numsB : List DI → Bool
  | [] => true
  | d :: ds => (ds.all fun e => !(Nat.beq e.num d.num)) && numsB ds
theorem find_num : ∀ {ds : List DI} {d : DI}, numsB ds = true → d ∈ ds → ds.find? (fun e => Nat.beq e.num d.num) = some d
  | [], _, _, h => by cases h
  | e :: ds, d, hn, h => by
    unfold numsB at hn
    obtain ⟨h1, h2⟩ := and2 hn
    rw [List.find?_cons]
    rcases List.mem_cons.mp h with rfl | h
    · rw [Nat.beq_refl]
    · have := List.all_eq_true.mp h1 d h
      have z : Nat.beq e.num d.num = false := by
        cases q : Nat.beq e.num d.num with
        | false => rfl
        | true =>
          have e1 := Nat.eq_of_beq_eq_true q
          rw [e1, Nat.beq_refl] at this
          cases this
      rw [z]
      exact find_num h2 h
/-! ### a Hook with one more look -/
def obsX (fa : List He.Fa) (fn : List He.DefD) (ex : PySem.W.Frag → Bool) (K : PySem.W.Frag) : He.AlD × Bool := (He.obsD fa fn K, ex K)
def obsXG (n : Nat) (fa : List He.Fa) (fn : List He.DefD) (ex : PySem.W.Frag → Bool) (g : Addr → Option Obj) : He.AlD × Bool := obsX fa fn ex (He.frG g (He.asD g n))
def hookX (n : Nat) (fa : List He.Fa) (fn : List He.DefD) (ex : PySem.W.Frag → Bool) : PySem.W.Hook where
  α := He.AlD × Bool
  obs := fun s => obsXG n fa fn ex s.heap.get?
  val := fun _ => (He.valD fn, true)
  says := fun _ h => ∃ K : PySem.W.Frag, K.In h ∧ He.SaysD fa fn K ∧ ex K = true
  of := fun _ _ e => ⟨_, He.frG_in, congrArg (fun z : He.AlD × Bool => z.1) e, congrArg (fun z : He.AlD × Bool => z.2) e⟩
  keeps := fun _ _ _ ⟨K, hK, c⟩ k => ⟨K, PySem.W.Frag.In.keeps hK k, c⟩
theorem obsXG_eq {n : Nat} {fa : List He.Fa} {fn : List He.DefD} {ex : PySem.W.Frag → Bool} {g : Addr → Option Obj} {s : Shared} (h : ∀ a, g a = s.heap.get? a) : obsXG n fa fn ex g = (hookX n fa fn ex).obs s := by
  have e : g = s.heap.get? := funext h
  rw [e] <;> rfl
def exT (_ : PySem.W.Frag) : Bool := true
/-- the error classes, looked at -/
def erA (K : PySem.W.Frag) (k : Nat) : Addr := He.ga K (errNames.getD k Str.empty)
def exE (K : PySem.W.Frag) (k : Nat) : Bool :=
  He.eqO (PySem.W.nsIn K mainGlobals (errNames.getD k Str.empty)) (some (some (.ref (erA K k))))
  && He.eqO (PySem.W.findIn K (.ref (erA K k)) "__getattribute__") (some (some (.builtin "BaseException.__getattribute__")))
  && He.eqO (PySem.W.findIn K (.ref (erA K k)) "__getattr__") (some none)
  && decide (PySem.W.subIn K (.ref (erA K k)) (.type "BaseException") = some true)
  && PySem.W.hasDictIn K (erA K k)
  && He.eqO (PySem.W.findIn K (.ref (erA K k)) "__class__") (some (some (.builtin "object.__class__")))
  && He.eqO (PySem.W.specialIn K (.builtin "object.__class__") "__get__") (some (some (.builtin "getset_descriptor.__get__")))
  && decide (PySem.W.takesIn K (.builtin "object.__class__") = some true)
  && decide (PySem.W.mroIn K (erA K k) (.type "object") = some true)
  && decide (PySem.W.kitOne K (.ref (erA K k)) (.type "ValueError") = some true)
  && decide (PySem.W.exmOne K (.ref (erA K k)) (.ref (He.ga K "AskError")) = some true)
  && (List.range 13).all fun j => decide (PySem.W.kitOne K (.ref (erA K k)) (.ref (erA K j)) = some (Nat.beq k j))
def exW (K : PySem.W.Frag) : Bool := He.eqO (PySem.W.nsIn K mainGlobals "AskError") (some (some (.ref (He.ga K "AskError")))) && (List.range 13).all fun k => exE K k
/-- the own class, looked at -/
def exP (K : PySem.W.Frag) : Bool :=
  He.eqO (PySem.W.findIn K (.ref (He.ga K "Play")) "__class__") (some (some (.builtin "object.__class__")))
  && He.eqO (PySem.W.specialIn K (.builtin "object.__class__") "__get__") (some (some (.builtin "getset_descriptor.__get__")))
  && decide (PySem.W.takesIn K (.builtin "object.__class__") = some true)
  && decide (PySem.W.mroIn K (He.ga K "Play") (.type "object") = some true)
  && decide (PySem.W.kitOne K (.ref (He.ga K "Play")) (.ref (He.ga K "Play")) = some true)
  && decide (PySem.W.kitOne K (.type "str") (.ref (He.ga K "Play")) = some false)
  && decide (PySem.W.subIn K (.type "str") (.ref (He.ga K "Play")) = some false)
def esW (es : List EI) : Bool := (List.range 13).all fun k => errOf es k == errNames.getD k Str.empty
structure ExE (K : PySem.W.Frag) (k : Nat) : Prop where
  ns : PySem.W.nsIn K mainGlobals (errNames.getD k Str.empty) = some (some (.ref (erA K k)))
  ec : ExcC K (erA K k)
  ve : PySem.W.kitOne K (.ref (erA K k)) (.type "ValueError") = some true
  xm : PySem.W.exmOne K (.ref (erA K k)) (.ref (He.ga K "AskError")) = some true
  is : ∀ j, j < 13 → PySem.W.kitOne K (.ref (erA K k)) (.ref (erA K j)) = some (Nat.beq k j)
theorem exE_ok {K : PySem.W.Frag} {k : Nat} (h : exE K k = true) : ExE K k := by
  unfold exE at h
  obtain ⟨h, h12⟩ := and2 h
  obtain ⟨h, h11⟩ := and2 h
  obtain ⟨h, h10⟩ := and2 h
  obtain ⟨h, h9⟩ := and2 h
  obtain ⟨h, h8⟩ := and2 h
  obtain ⟨h, h7⟩ := and2 h
  obtain ⟨h, h6⟩ := and2 h
  obtain ⟨h, h5⟩ := and2 h
  obtain ⟨h, h4⟩ := and2 h
  obtain ⟨h, h3⟩ := and2 h
  obtain ⟨h1, h2⟩ := and2 h
  exact ⟨He.eqO_ok h1, ⟨He.eqO_ok h2, He.eqO_ok h3, of_decide_eq_true h4, h5, He.eqO_ok h6, He.eqO_ok h7, of_decide_eq_true h8, of_decide_eq_true h9⟩, of_decide_eq_true h10, of_decide_eq_true h11, fun j hj => of_decide_eq_true (List.all_eq_true.mp h12 j (List.mem_range.mpr hj))⟩
/-- how a def's parameters are bound -/
def Bd (d : DI) : Prop := ∀ (kV doc pm : Value) (an : Option Addr) (cdv ct : Value) (us : List Value), us.length = d.ps.length → bindArgs (PySem.W.fnOf d.name d.qual (defArgs d.st) (defBody d.st) (defScope d.st) .none kV doc pm an cdv ct) ⟨us, []⟩ = pure (d.ps.zip us)
theorem lookD_mem {x : Str} {d : D} : ∀ {cs : List Co}, lookD x (cs.map fun c => (c.name, c.d)) = some d → ∃ c ∈ cs, c.name = x ∧ c.d = d
  | [], h => by cases h
  | c :: cs, h => by
    unfold lookD at h
    by_cases q : (x == c.name) = true
    · rw [List.map_cons] at h
      simp only [q, if_true] at h
      cases h
      exact ⟨c, List.mem_cons_self, (eq_of_beq q).symm, rfl⟩
    · rw [List.map_cons] at h
      simp only [q] at h
      obtain ⟨c', h1, h2⟩ := lookD_mem h
      exact ⟨c', List.mem_cons_of_mem _ h1, h2⟩
section
variable {P : Program} {w : World} {K : PySem.W.Frag} {h : Heap} {mg : Str → Option Value} {ds ws : List DI} {cs : List Co} {es : List EI} {cl : List Str}
theorem fact_ok (c : He.SaysD (faO ds cs es cl) (fnO ds) K) {f : He.Fa} (hf : f ∈ faO ds cs es cl) : f.ok K = true := by
  obtain ⟨i, e⟩ := List.getElem?_of_mem hf
  exact c.fact i e
theorem fun_ok (c : He.SaysD (faO ds cs es cl) (fnO ds) K) {d : DI} (hd : d ∈ ds) : ∃ fd, FunD K d.name d.qual (defArgs d.st) (defBody d.st) (defScope d.st) [] [] (He.fAd K (dAt d)) fd := by
  have : (⟨dAt d, d.name, d.qual, defArgs d.st, defBody d.st, defScope d.st, [], []⟩ : He.DefD) ∈ fnO ds := List.mem_map.mpr ⟨d, hd, rfl⟩
  obtain ⟨i, e⟩ := List.getElem?_of_mem this
  exact c.def_ i e
theorem fa_num (hn : numsB ds = true) {d : DI} (hd : d ∈ ds) : (ctO ds es P w K).fa d.num = He.fAd K (dAt d) := by
  show adOf ds K d.num = _
  unfold adOf
  rw [find_num hn hd]
theorem fc_def {d : DI} (hd : d ∈ ds) : dFa d ∈ faO ds cs es cl := List.mem_append.mpr (.inl (List.mem_map.mpr ⟨d, hd, rfl⟩))
theorem fc_free {x : Str} (hx : x ∈ blts) : He.Fa.free x ∈ faO ds cs es cl := List.mem_append.mpr (.inr (List.mem_append.mpr (.inl (List.mem_map.mpr ⟨x, hx, rfl⟩))))
theorem fc_con {co : Co} (hx : co ∈ cs) : Co.fa co ∈ faO ds cs es cl := List.mem_append.mpr (.inr (List.mem_append.mpr (.inr (List.mem_append.mpr (.inl (List.mem_map.mpr ⟨co, hx, rfl⟩))))))
theorem fc_glo {e : EI} (hx : e ∈ es) : He.Fa.glo e.name ∈ faO ds cs es cl := List.mem_append.mpr (.inr (List.mem_append.mpr (.inr (List.mem_append.mpr (.inr (List.mem_append.mpr (.inl (List.mem_map.mpr ⟨e, hx, rfl⟩))))))))
theorem fc_exc {e : EI} (hx : e ∈ es) : He.Fa.exc e.name ∈ faO ds cs es cl := List.mem_append.mpr (.inr (List.mem_append.mpr (.inr (List.mem_append.mpr (.inr (List.mem_append.mpr (.inr (List.mem_append.mpr (.inl (List.mem_map.mpr ⟨e, hx, rfl⟩))))))))))
theorem fc_cls {x : Str} {f : He.Fa} (hx : x ∈ cl) (hf : f ∈ clF x) : f ∈ faO ds cs es cl := List.mem_append.mpr (.inr (List.mem_append.mpr (.inr (List.mem_append.mpr (.inr (List.mem_append.mpr (.inr (List.mem_append.mpr (.inr (List.mem_flatMap.mpr ⟨x, hx, hf⟩))))))))))
/-- the def that tells the error's number, if there is one; the own class, if there is one -/
structure WhO (ws : List DI) (es : List EI) (wh : Bool) (cl : List Str) (ex : PySem.W.Frag → Bool) : Prop where
  es : wh = true → esW es = true
  exw : wh = true → ∀ K, ex K = true → exW K = true
  ws : wh = true → ∃ d ∈ ws, d.name = ("_law_which" : Str) ∧ d.own = none ∧ d.ps = [("e" : Str)] ∧ Bd d ∧ whDef (defScope d.st) (defBody d.st) = true
  pl : cl ≠ [] → ∀ K, ex K = true → exP K = true
theorem WhO.no {es : List EI} : WhO [] es false [] exT := ⟨fun h => (by cases h), fun h => (by cases h), fun h => (by cases h), fun h => absurd rfl h⟩
structure ExP (K : PySem.W.Frag) : Prop where
  h1 : PySem.W.findIn K (.ref (He.ga K "Play")) "__class__" = some (some (.builtin "object.__class__"))
  h2 : PySem.W.specialIn K (.builtin "object.__class__") "__get__" = some (some (.builtin "getset_descriptor.__get__"))
  h3 : PySem.W.takesIn K (.builtin "object.__class__") = some true
  h4 : PySem.W.mroIn K (He.ga K "Play") (.type "object") = some true
  h5 : PySem.W.kitOne K (.ref (He.ga K "Play")) (.ref (He.ga K "Play")) = some true
  h6 : PySem.W.kitOne K (.type "str") (.ref (He.ga K "Play")) = some false
  h7 : PySem.W.subIn K (.type "str") (.ref (He.ga K "Play")) = some false
theorem exP_ok {K : PySem.W.Frag} (h : exP K = true) : ExP K := by
  unfold exP at h
  obtain ⟨h, h7⟩ := and2 h
  obtain ⟨h, h6⟩ := and2 h
  obtain ⟨h, h5⟩ := and2 h
  obtain ⟨h, h4⟩ := and2 h
  obtain ⟨h, h3⟩ := and2 h
  obtain ⟨h1, h2⟩ := and2 h
  exact ⟨He.eqO_ok h1, He.eqO_ok h2, of_decide_eq_true h3, of_decide_eq_true h4, of_decide_eq_true h5, of_decide_eq_true h6, of_decide_eq_true h7⟩
theorem own_cases {d : DI} (h : (isNone d.own || (isPlay d.own && cl.contains ("Play" : Str) && !fldN.contains d.name)) = true) : d.own = none ∨ (d.own = some ("Play" : Str) ∧ ("Play" : Str) ∈ cl ∧ d.name ∉ fldN) := by
  rcases Bool.or_eq_true_iff.mp h with h | h
  · left
    unfold isNone at h
    split at h <;> first | assumption | cases h
  · right
    obtain ⟨h, h3⟩ := and2 h
    obtain ⟨h1, h2⟩ := and2 h
    refine ⟨?_, by simpa using h2, fun z => by simp [z] at h3⟩
    unfold isPlay at h1
    split at h1
    · rename_i c q; rw [q, str_eq_of h1]
    · cases h1
theorem hd_ok {n : Nat} {wh : Bool} {ex : PySem.W.Frag → Bool} (X : K.In h) (Gn : h.Ns mainGlobals mg) (c : He.SaysD (faO (ds ++ ws) cs es cl) (fnO (ds ++ ws)) K) (xk : ex K = true) (hwo : WhO ws es wh cl ex) (hcl : clB ds cl = true) (hn : numsB ds = true) (he : errsB es = true) (hb : ∀ d ∈ ds, Bd d) (hc : (ds.all fun d => chkDef (gsO ds cs es wh cl) d.N d.ps (defScope d.st) (defBody d.st) d.d n) = true) : Hd P w K mg (ctO ds es P w K) (gsO ds cs es wh cl) (prO ds) := by
  unfold clB at hcl
  obtain ⟨hcl1, hcl2⟩ := and2 hcl
  have hown : ∀ d ∈ ds, d.own = none ∨ (d.own = some ("Play" : Str) ∧ ("Play" : Str) ∈ cl ∧ d.name ∉ fldN) := fun d hd => own_cases (List.all_eq_true.mp hcl1 d hd)
  have hpr : ∀ d ∈ ds, (prO ds).fn d.num = some d.d := fun d hd => by
    show (ds.find? fun e => Nat.beq e.num d.num).map (·.d) = _
    rw [find_num hn hd]
    rfl
  have hcls : ("Play" : Str) ∈ cl → Cls K (He.ga K "Play") ∧ ExP K := fun hp => ⟨He.cls_ok (fact_ok c (fc_cls hp (by simp [clF]))), exP_ok (hwo.pl (fun z => by rw [z] at hp; cases hp) K xk)⟩
  refine ⟨rfl, rfl, rfl, fun x k hx => ?_, fun x hx => ?_, fun x d hx => ?_, fun f d hf => ?_, fun x f hx => ?_, fun x c' f hx => ?_, fun m c' f hx => ?_, fun n c' g hx => ?_, fun _ _ => rfl, fun hw => ?_⟩
  · obtain ⟨e, h1, h2⟩ := List.mem_map.mp hx
    cases h2
    have xa : (ctO ds es P w K).xa e.num = He.ga K e.name := by
      show He.ga K (errOf es e.num) = _
      unfold errOf
      rw [find_err he h1]
      rfl
    rw [xa]
    have f1 := fact_ok c (fc_glo h1)
    have f2 : (He.Fa.exc e.name).ok K = true := fact_ok c (fc_exc h1)
    unfold He.Fa.ok at f2
    obtain ⟨a1, f2⟩ := and2 f2
    obtain ⟨a2, f2⟩ := and2 f2
    obtain ⟨a3, a4⟩ := and2 f2
    exact ⟨He.glo_ok X Gn f1, a1, a2, of_decide_eq_true a3, of_decide_eq_true a4⟩
  · exact He.free_ok X Gn (fact_ok c (fc_free hx))
  · obtain ⟨co, h1, h2, h3⟩ := lookD_mem hx
    have := fact_ok c (fc_con h1)
    cases co with
    | int y i =>
      cases h2
      cases h3
      obtain ⟨t, e⟩ := He.int_ok X Gn this
      exact ⟨.int i, _, e, ⟨t, rfl⟩, fun w => .int i⟩
    | str y z =>
      cases h2
      cases h3
      obtain ⟨t, e⟩ := He.str_ok X Gn this
      exact ⟨.str z, _, e, ⟨t, rfl⟩, fun w => .str z⟩
  · have hf : (ds.find? fun e => Nat.beq e.num f).map (·.d) = some d := hf
    cases q : ds.find? fun e => Nat.beq e.num f with
    | none => rw [q] at hf; cases hf
    | some e =>
      rw [q] at hf
      cases hf
      have h1 := List.mem_of_find?_eq_some q
      have h2 : e.num = f := Nat.eq_of_beq_eq_true (List.find?_some (p := fun e : DI => Nat.beq e.num f) q)
      subst h2
      obtain ⟨fd, F⟩ := fun_ok c (List.mem_append_left ws h1)
      rw [← fa_num (K := K) (P := P) (w := w) (es := es) hn h1] at F
      exact ⟨_, _, _, _, _, fd, e.N, e.ps, n, F, F.bindsN (hb e h1), List.all_eq_true.mp hc e h1⟩
  · obtain ⟨d, h1, h2⟩ := List.mem_filterMap.mp hx
    have ho : d.own = none ∧ (d.name, d.num) = (x, f) := by
      unfold gFn at h2
      split at h2
      · rename_i q; exact ⟨q, Option.some.inj h2⟩
      · cases h2
    obtain ⟨ho, h2⟩ := ho
    cases h2
    have f1 := fact_ok c (fc_def (List.mem_append_left ws h1))
    unfold dFa at f1
    rw [ho] at f1
    have e1 := He.glo_ok X Gn f1
    refine ⟨?_, d.d, hpr d h1⟩
    rw [fa_num (K := K) (P := P) (w := w) (es := es) hn h1]
    unfold dAt
    rw [ho]
    exact e1
  · obtain ⟨y, h1, h2⟩ := List.mem_map.mp hx
    cases h2
    obtain ⟨g1, g2⟩ := and2 (List.all_eq_true.mp hcl2 x h1)
    have ex := str_eq_of g1
    subst ex
    obtain ⟨d, d1, d2⟩ := List.any_eq_true.mp g2
    obtain ⟨d2, d4⟩ := and2 d2
    obtain ⟨d2, d3⟩ := and2 d2
    have d4 := Nat.eq_of_beq_eq_true d4
    have d3 := str_eq_of d3
    have ho : d.own = some ("Play" : Str) := by
      unfold isPlay at d2
      split at d2
      · rename_i c q; rw [q, str_eq_of d2]
      · cases d2
    obtain ⟨k1, k2⟩ := hcls h1
    have hfa : (ctO ds es P w K).fa 120 = He.ma K (He.ga K "Play") "__init__" := by
      rw [← d4, fa_num (K := K) (P := P) (w := w) (es := es) hn d1]
      unfold dAt
      rw [ho, d3]
      rfl
    refine ⟨He.glo_ok X Gn (fact_ok c (fc_cls h1 (by simp [clF]))), ?_, ⟨d.d, by rw [← d4]; exact hpr d d1⟩, k1, k2.h1, k2.h2, k2.h3, k2.h4, k2.h5, k2.h6⟩
    rw [hfa]
    exact He.mkr_ok (fact_ok c (fc_cls h1 (by simp [clF])))
  · obtain ⟨d, h1, h2⟩ := List.mem_filterMap.mp hx
    rcases hown d h1 with ho | ⟨ho, hp, hnf⟩
    · unfold gMt at h2; rw [ho] at h2; cases h2
    · unfold gMt at h2
      rw [ho] at h2
      cases h2
      obtain ⟨k1, k2⟩ := hcls hp
      have f1 := fact_ok c (fc_def (List.mem_append_left ws h1))
      unfold dFa at f1
      rw [ho] at f1
      refine ⟨k1, ?_, ⟨d.d, hpr d h1⟩, fun g hg z => hnf ?_, k2.h7⟩
      · rw [fa_num (K := K) (P := P) (w := w) (es := es) hn h1]
        unfold dAt
        rw [ho]
        exact He.meth_ok f1
      · rw [← z]
        show fldN.getD g "game" ∈ fldN
        match g, hg with
        | 0, _ => decide
        | 1, _ => decide
        | 2, _ => decide
        | 3, _ => decide
  · have hx : (n, c', g) ∈ fldG cl := hx
    cases cl with
    | nil => cases hx
    | cons y r =>
      have hy : ("Play" : Str) ∈ y :: r := by
        have := List.all_eq_true.mp hcl2 y List.mem_cons_self
        rw [← str_eq_of (and2 this).1]
        exact List.mem_cons_self
      obtain ⟨k1, k2⟩ := hcls hy
      have hno : ∀ f ∈ fldN, NoAttr K (He.ga K "Play") f := fun f hf => He.noat_ok (fact_ok c (fc_cls hy (by unfold clF; exact List.mem_append_right _ (List.mem_map.mpr ⟨f, hf, rfl⟩))))
      have hx : (n, c', g) ∈ [(("game" : Str), 0, 0), (("thing" : Str), 0, 1), (("put" : Str), 0, 2), (("floor" : Str), 0, 3)] := hx
      simp only [List.mem_cons, List.not_mem_nil, or_false, Prod.mk.injEq] at hx
      rcases hx with ⟨rfl, rfl, rfl⟩ | ⟨rfl, rfl, rfl⟩ | ⟨rfl, rfl, rfl⟩ | ⟨rfl, rfl, rfl⟩
      all_goals refine ⟨k1, hno _ (by decide), rfl, by decide, fun g' hg' e => ?_⟩
      all_goals (match g', hg', e with
        | 0, _, e => first | rfl | exact absurd (show fldN.getD 0 "game" = _ from e) (by decide)
        | 1, _, e => first | rfl | exact absurd (show fldN.getD 1 "game" = _ from e) (by decide)
        | 2, _, e => first | rfl | exact absurd (show fldN.getD 2 "game" = _ from e) (by decide)
        | 3, _, e => first | rfl | exact absurd (show fldN.getD 3 "game" = _ from e) (by decide))
  · have h1 := hwo.es hw
    have h2 := hwo.exw hw K xk
    unfold exW at h2
    obtain ⟨h2, h3⟩ := and2 h2
    have h3 : ∀ k, k < 13 → ExE K k := fun k hk => exE_ok (List.all_eq_true.mp h3 k (List.mem_range.mpr hk))
    have hxa : ∀ k, k < 13 → (ctO ds es P w K).xa k = erA K k := fun k hk => by
      have := List.all_eq_true.mp h1 k (List.mem_range.mpr hk)
      show He.ga K (errOf es k) = _
      rw [eq_of_beq this]
      rfl
    obtain ⟨d, d1, d2, d6, d3, d4, d5⟩ := hwo.ws hw
    have f1 := fact_ok c (fc_def (List.mem_append_right ds d1))
    unfold dFa at f1
    rw [d6] at f1
    have e1 := He.glo_ok X Gn f1
    obtain ⟨fd, F⟩ := fun_ok c (List.mem_append_right ds d1)
    have hfa : He.fAd K (dAt d) = He.ga K d.name := by unfold dAt; rw [d6]; rfl
    rw [hfa] at F
    refine ⟨⟨He.ga K "AskError", He.glo_ok (x := "AskError") X Gn (by unfold He.Fa.ok; exact h2), fun k hk => by rw [hxa k hk]; exact (h3 k hk).xm⟩, ⟨fun k hk => by rw [hxa k hk]; exact (h3 k hk).ec, fun k j hk hj => by rw [hxa k hk, hxa j hj]; exact (h3 k hk).is j hj, fun k hk => by rw [hxa k hk]; exact (h3 k hk).ve⟩, fun j x hj => ?_, He.ga K d.name, _, _, _, _, _, fd, ?_, F, ?_, d5⟩
    · have hj13 := (errN_ok hj).1
      rw [hxa j hj13]
      have := (h3 j hj13).ns
      have ex : errNames.getD j Str.empty = x := by rw [List.getD_eq_getElem?_getD, hj]; rfl
      rw [ex] at this
      have ea : erA K j = He.ga K x := by unfold erA; rw [ex]
      rw [ea] at this ⊢
      exact He.glo_ok (x := x) X Gn (by unfold He.Fa.ok; exact decide_eq_true this)
    · rw [← d2]; exact e1
    · have := F.bindsN d4
      rw [d3] at this
      exact this
end
/-- the end: as L2.walk_ofE, where what is let out hangs on the world -/
theorem walk_ofW {l : PySem.W.OpenLaw} {n k : Nat} {q : Program} {loose : List Str} {XP : (Str → Option Value) → Heap → Prop} {YP : World → Heap → Prop} {d : DefRec} {CX : World → CXT} {x : Str}
    (hn : l.most = some n) (hn2 : n ≤ sizeLine) (hdf : d.params.defaults = []) (hr : Room k callerA)
    (F : ∀ (w : World) (mg : Str → Option Value) (fa : Addr) (h : Heap), YP w h → h.Ns mainGlobals mg → mg d.name = some (.ref fa) →
      ∃ (K : PySem.W.Frag) (fd : FuncData) (sp : Sp), K.In h ∧ (∀ (s : Shared) (u : Value), BindsTo s fd ⟨[u], []⟩ [(x, u)]) ∧
        (∀ (H : Hp) (a : Addr) (ns : List Int), ns.length ≤ n → Only H → SqL K H a (ns.map V.int) → sp [.ref a] H (fun v _ => v = .bl true) fun _ _ _ => False) ∧
        ∀ base : Heap, K.In base → base.Ns mainGlobals mg → FnOk l.prog w K mg base (CX w) k fa fd [x] sp)
    (hCX : ∀ (w : World) (H : Hp) (s : Shared) (e : Value) (s' : Shared), CX w [] H s (fun _ _ _ => False) e s' → False) :
    PySem.W.WalkO q loose XP YP l.row.toRowW d [] (fun f vs => PySem.call f vs) := by
  refine Att.attach_call hn hdf fun w s₀ s₁ mg mb fa o pm cd doc a vs ns G Y ho hd hcd hmg hobj hints hlen hg => ?_
  obtain ⟨K, fd, sp, KX, hb, hsp, hF⟩ := F w mg fa _ Y G.T.g hmg
  exact law_call KX G.T.g G.T.b G.T.builtins G.T.nolimit hg hobj hints (Nat.le_trans hlen hn2) hr hF hb (fun H hO hS => hsp H a ns hlen hO hS) fun H e s' => hCX w H s₁ e s'
theorem rvs_mapInt {C : Ct} {w : Wd} : ∀ ns : List Int, RVs C w (ns.map V.int) (ns.map D.int)
  | [] => .nil
  | n :: ns => .cons (.int n) (rvs_mapInt ns)
/-- the law -/
theorem walk_mi {l : PySem.W.OpenLaw} {n k m : Nat} {q : Program} {loose : List Str} {XP : (Str → Option Value) → Heap → Prop} {rd : DefRec} {ds ws : List DI} {cs : List Co} {es : List EI} {dl : DI} {dep : Nat} {wh : Bool} {ex : PySem.W.Frag → Bool} {cl : List Str}
    (hn : l.most = some n) (hn2 : n ≤ sizeLine) (hdf : rd.params.defaults = []) (hr : Room (3 * k + 1) callerA) (hwo : WhO ws es wh cl ex) (hcl : clB ds cl = true) (hm : dl ∈ ds) (hown : dl.own = none) (hname : rd.name = dl.name) (hps : dl.ps = [("script" : Str)])
    (hnum : numsB ds = true) (herr : errsB es = true) (hb : ∀ d ∈ ds, Bd d) (hc : (ds.all fun d => chkDef (gsO ds cs es wh cl) d.N d.ps (defScope d.st) (defBody d.st) d.d m) = true)
    (hrun : ∀ ns : List Int, ns.length ≤ n → ∃ st', (run (prO ds) k).fn dl.num [.scr (ns.map D.int)] [] = .ok (.bl true) st') :
    PySem.W.WalkO q loose XP (hookX dep (faO (ds ++ ws) cs es cl) (fnO (ds ++ ws)) ex).says l.row.toRowW rd [] (fun f vs => PySem.call f vs) := by
  refine walk_ofW (k := 3 * k + 1) (x := "script") (CX := fun w => L2.CX l.prog w) hn hn2 hdf hr ?_ ?_
  · intro w mg fa h Y G hmg
    obtain ⟨K, KX, c, xk⟩ := Y
    obtain ⟨fd, F⟩ := fun_ok c (List.mem_append_left ws hm)
    have f1 := fact_ok c (fc_def (List.mem_append_left ws hm))
    unfold dFa at f1
    rw [hown] at f1
    have e1 := He.glo_ok KX G f1
    have hfa : He.fAd K (dAt dl) = He.ga K dl.name := by unfold dAt; rw [hown]; rfl
    rw [hfa] at F
    rw [hname, e1] at hmg
    cases hmg
    have hbl := hb dl hm
    have b := FunD.bindsA F hbl
    have hp : ∀ base : Heap, K.In base → base.Ns mainGlobals mg → FnOk l.prog w K mg base (L2.CX l.prog w) (3 * k + 1) (He.ga K dl.name) fd dl.ps (spF (ctO ds es l.prog w K) (run (prO ds) k) dl.num) := fun base X2 G2 => by
      have H := hd_ok (P := l.prog) (w := w) X2 G2 c xk hwo hcl hnum herr hb hc
      cases k with
      | zero =>
        obtain ⟨st', e⟩ := hrun [] (Nat.zero_le _)
        cases e
      | succ k =>
        have e2 : (prO ds).fn dl.num = some dl.d := by
          show (ds.find? fun e => Nat.beq e.num dl.num).map (·.d) = _
          rw [find_num hnum hm]
          rfl
        have := def_ok (base := base) H (fun f d h => defs_ok H k f d h) (f := dl.num) (fd := fd) (by rw [fa_num hnum hm, hfa]; exact F) e2 (List.all_eq_true.mp hc dl hm)
        rw [fa_num hnum hm, hfa] at this
        exact this
    rw [hps] at hp b
    refine ⟨K, fd, spF (ctO ds es l.prog w K) (run (prO ds) k) dl.num, KX, fun s u => b s [u] rfl, fun H a ns hl _ hS => ?_, hp⟩
    obtain ⟨st', e⟩ := hrun ns hl
    refine ⟨⟨H, H, []⟩, [], [.scr (ns.map D.int)], rfl, ⟨fun _ _ e => e, List.nodup_nil, fun _ z => (by cases z), fun _ z => (by cases z)⟩, ⟨rfl, fun n c a e _ => (by cases e)⟩, .cons (.scr hS (rvs_mapInt ns)) .nil, ?_⟩
    rw [e]
    intro v w' _ _ r
    cases r
    rfl
  · intro w H s e s' z
    obtain ⟨_, _, _, _, _, _, _, _, _, _, _, _, z⟩ := z
    exact z
end Mi

set_option Elab.async false
set_option linter.all false
set_option maxRecDepth 100000
/-! MiD: the defs of the laws in the small language (printed by gen.py). -/
namespace Mi.Df
abbrev n__law_all_rows : Nat := 0
abbrev n__law_ask : Nat := 1
abbrev n__law_back : Nat := 2
abbrev n__law_behind_so : Nat := 3
abbrev n__law_can_so : Nat := 4
abbrev n__law_cell_at : Nat := 5
abbrev n__law_classes : Nat := 6
abbrev n__law_count : Nat := 7
abbrev n__law_draw : Nat := 8
abbrev n__law_due : Nat := 9
abbrev n__law_game_in : Nat := 10
abbrev n__law_game_text : Nat := 11
abbrev n__law_idle : Nat := 12
abbrev n__law_in_twos : Nat := 13
abbrev n__law_lines : Nat := 14
abbrev n__law_lists : Nat := 15
abbrev n__law_look : Nat := 16
abbrev n__law_made : Nat := 17
abbrev n__law_mixed : Nat := 18
abbrev n__law_no_plans : Nat := 19
abbrev n__law_number : Nat := 20
abbrev n__law_numbers_refused : Nat := 21
abbrev n__law_orders : Nat := 22
abbrev n__law_parse : Nat := 23
abbrev n__law_path : Nat := 24
abbrev n__law_pick : Nat := 25
abbrev n__law_pieces : Nat := 26
abbrev n__law_reply : Nat := 27
abbrev n__law_rows_of : Nat := 28
abbrev n__law_same_number : Nat := 29
abbrev n__law_same_truth : Nat := 30
abbrev n__law_some_beats : Nat := 31
abbrev n__law_some_cuts : Nat := 32
abbrev n__law_some_game : Nat := 33
abbrev n__law_some_plan : Nat := 34
abbrev n__law_states_refused : Nat := 35
abbrev n__law_when : Nat := 36
abbrev n__law_which : Nat := 37
abbrev n__law_wider : Nat := 38
abbrev n__wall : Nat := 39
abbrev n_answer_to : Nat := 40
abbrev n_answers_to : Nat := 41
abbrev n_apart_of : Nat := 42
abbrev n_are_beats : Nat := 43
abbrev n_are_cuts : Nat := 44
abbrev n_behind : Nat := 45
abbrev n_behind_of : Nat := 46
abbrev n_best : Nat := 47
abbrev n_best_order : Nat := 48
abbrev n_can : Nat := 49
abbrev n_can_of : Nat := 50
abbrev n_cuts_in : Nat := 51
abbrev n_due_of : Nat := 52
abbrev n_fewer_from : Nat := 53
abbrev n_fewest : Nat := 54
abbrev n_finds_all : Nat := 55
abbrev n_for_fewer : Nat := 56
abbrev n_for_less : Nat := 57
abbrev n_game_line : Nat := 58
abbrev n_game_text : Nat := 59
abbrev n_good : Nat := 60
abbrev n_good_from : Nat := 61
abbrev n_good_game : Nat := 62
abbrev n_good_plan : Nat := 63
abbrev n_good_row : Nat := 64
abbrev n_good_state : Nat := 65
abbrev n_heard : Nat := 66
abbrev n_idle : Nat := 67
abbrev n_is_entry : Nat := 68
abbrev n_is_game : Nat := 69
abbrev n_is_good : Nat := 70
abbrev n_is_plan : Nat := 71
abbrev n_is_row : Nat := 72
abbrev n_is_state : Nat := 73
abbrev n_is_whole : Nat := 74
abbrev n_known_at : Nat := 75
abbrev n_law : Nat := 76
abbrev n_less_from : Nat := 77
abbrev n_look_behind : Nat := 78
abbrev n_looks_of : Nat := 79
abbrev n_most : Nat := 80
abbrev n_most_of : Nat := 81
abbrev n_moved : Nat := 82
abbrev n_narrowed : Nat := 83
abbrev n_need_all : Nat := 84
abbrev n_need_beats : Nat := 85
abbrev n_need_game : Nat := 86
abbrev n_need_late : Nat := 87
abbrev n_need_plan : Nat := 88
abbrev n_need_state : Nat := 89
abbrev n_need_thing : Nat := 90
abbrev n_next_cuts : Nat := 91
abbrev n_not_parted : Nat := 92
abbrev n_number_in : Nat := 93
abbrev n_orders_of : Nat := 94
abbrev n_parts : Nat := 95
abbrev n_parts_of : Nat := 96
abbrev n_pieces_of : Nat := 97
abbrev n_plan_from : Nat := 98
abbrev n_plan_in : Nat := 99
abbrev n_plan_in_text : Nat := 100
abbrev n_plan_lines : Nat := 101
abbrev n_plan_text : Nat := 102
abbrev n_plans_in : Nat := 103
abbrev n_read_game : Nat := 104
abbrev n_read_plan : Nat := 105
abbrev n_row_of : Nat := 106
abbrev n_slowest : Nat := 107
abbrev n_thing_of : Nat := 108
abbrev n_turned : Nat := 109
abbrev n_turned_from : Nat := 110
abbrev n_way : Nat := 111
abbrev n_way_of : Nat := 112
abbrev n_when_of : Nat := 113
abbrev n_within : Nat := 114
abbrev n_worths : Nat := 115
-- k01 k02 k03 k04 k05 k06 k07 k08 k09 k10 k11 k12 k13 k14 k15 k16 k17 k18 k19 k20 k21 k22 k23
def d_is_whole : Def := ⟨3, 3, [
  .ret (.and (.isa (.var 0) .int) (.and (.not (.isa (.var 0) .bool)) (.chain .le .le (.var 1) (.var 0) (.var 2))))]⟩
-- k01 k02 k03 k04 k05 k06 k07 k08 k09 k10 k11 k12 k13 k14 k15 k16 k17 k18 k19 k20 k21 k22 k23
def d_are_beats : Def := ⟨2, 3, [
  .ret (.and (.isa (.var 0) .tuple) (.and (.cmp .le (.bi .len [.var 0]) (.var 1)) (.bi .all [.lc (.call 74 [.var 2, .con (.int 0), .glob [] (.int 3)]) [2] (.name 2) (.var 0) []])))]⟩
-- k01 k02 k03 k04 k06 k07 k08 k09 k10 k11 k12 k13 k14 k15 k16 k18 k20 k21 k22
def d_good_game : Def := ⟨1, 1, [
  .ite (.or (.not (.isa (.var 0) .tuple)) (.cmp .ne (.bi .len [.var 0]) (.con (.int 3)))) [.ret (.con (.bl false))] [],
  .ret (.and (.call 74 [.idx (.var 0) (.con (.int 0)), .con (.int 1), .glob [] (.int 64)]) (.and (.call 74 [.idx (.var 0) (.con (.int 1)), .con (.int 0), .glob [] (.int 5)]) (.call 43 [.idx (.var 0) (.con (.int 2)), .glob [] (.int 8)])))]⟩
-- k01 k09 k10
def d_is_game : Def := ⟨1, 1, [
  .ret (.call 62 [.var 0])]⟩
-- k01 k03 k04 k05 k06 k07 k09 k14 k15 k16 k17 k18 k19 k21 k22 k23
def d_most_of : Def := ⟨2, 4, [
  .new 2 (.bin .mul (.list [.con (.int 1)]) (.bin .add (.bin .add (.bi .len [.var 1]) (.var 0)) (.con (.int 1)))),
  .for_ (.name 3) (.rng [.bin .sub (.bi .len [.var 1]) (.con (.int 1)), .neg (.con (.int 1)), .neg (.con (.int 1))]) [.setix 2 (.var 3) (.bin .add (.idx (.var 2) (.bin .add (.var 3) (.con (.int 1)))) (.bin .mul (.idx (.var 1) (.var 3)) (.idx (.var 2) (.bin .add (.bin .add (.var 3) (.con (.int 1))) (.var 0)))))],
  .ret (.idx (.var 2) (.con (.int 0)))]⟩
-- k01 k05 k06 k07 k09 k14 k15 k16 k17 k18 k19 k21 k22 k23
def d_need_late : Def := ⟨1, 1, [
  .ite (.not (.call 74 [.var 0, .con (.int 0), .glob [] (.int 5)])) [.raise_ 5] []]⟩
-- k01 k05 k06 k07 k09 k14 k15 k16 k17 k18 k19 k21 k22 k23
def d_need_beats : Def := ⟨1, 1, [
  .ite (.not (.call 43 [.var 0, .glob [] (.int 8)])) [.raise_ 7] []]⟩
-- k01 k05 k06 k07 k09 k14 k15 k17 k19 k21 k23
def d_most : Def := ⟨2, 2, [
  .expr (.call 87 [.var 0]),
  .expr (.call 85 [.var 1]),
  .ret (.call 81 [.var 0, .var 1])]⟩
-- k01 k09 k16
def d_worths : Def := ⟨2, 4, [
  .expr (.call 87 [.var 0]),
  .expr (.call 85 [.var 1]),
  .ret (.lc (.bin .mul (.var 3) (.call 81 [.var 0, .slc (.var 1) [.bin .add (.bin .add (.var 2) (.con (.int 1))) (.var 0)] []])) [2, 3] (.tup [.name 2, .name 3]) (.enm [.var 1]) [])]⟩
-- k01 k09
def d_fewest : Def := ⟨3, 4, [
  .ite (.not (.call 74 [.var 0, .con (.int 1), .glob [] (.int 64)])) [.raise_ 3] [],
  .expr (.call 87 [.var 1]),
  .ite (.not (.call 74 [.var 2, .con (.int 1), .glob [] (.int 3)])) [.raise_ 9] [],
  .asg (.name 3) (.con (.int 0)),
  .while_ (.cmp .lt (.call 81 [.var 1, .bin .mul (.tup [.var 2]) (.var 3)]) (.var 0)) [.aug 3 .add (.con (.int 1))],
  .ret (.var 3)]⟩
-- k01 k02 k03 k04 k05 k06 k07 k08 k09 k10 k11 k12 k14 k15 k16 k17 k18 k19 k20 k21 k22 k23
def d__law_cell_at : Def := ⟨2, 4, [
  .ite (.cmp .lt (.var 1) (.bi .len [.var 0])) [.ret (.idx (.var 0) (.var 1))] [],
  .ite (.cmp .eq (.var 0) (.list [])) [.ret (.con (.int 0))] [],
  .asg (.name 2) (.idx (.var 0) (.bin .mod (.var 1) (.bi .len [.var 0]))),
  .for_ (.name 3) (.rng [.bi .min [.bin .fdiv (.var 1) (.bi .len [.var 0]), .con (.int 60)]]) [.asg (.name 2) (.bin .fdiv (.var 2) (.con (.int 1000003)))],
  .ret (.bin .add (.bin .add (.bin .mul (.idx (.var 0) (.bin .mod (.var 1) (.bi .len [.var 0]))) (.con (.int 31))) (.var 1)) (.bin .mul (.var 2) (.con (.int 101))))]⟩
-- k01 k02 k03 k04 k05 k06 k07 k08 k09 k10 k11 k12 k14 k15 k16 k17 k18 k19 k20 k21 k22 k23
def d__law_mixed : Def := ⟨3, 4, [
  .asg (.name 3) (.bin .mod (.bin .add (.bin .add (.bin .mul (.call 5 [.var 0, .var 1]) (.con (.int 1103515245))) (.bin .mul (.con (.int 7919)) (.var 1))) (.con (.int 12345))) (.con (.int 2147483647))),
  .ret (.bin .mod (.bin .mod (.bin .mod (.bin .pow (.var 3) (.con (.int 5))) (.con (.int 2147483647))) (.con (.int 999983))) (.var 2))]⟩
-- k01 k02 k03 k04 k05 k06 k07 k08 k09 k10 k11 k12 k14 k15 k16 k17 k18 k19 k20 k21 k22 k23
def d__law_draw : Def := ⟨3, 3, [
  .append 1 (.con (.int 0)),
  .ret (.call 18 [.var 0, .bi .len [.var 1], .var 2])]⟩
-- k01 k13 k17
def d__law_same_number : Def := ⟨2, 2, [
  .ret (.and (.isa (.var 0) .int) (.and (.not (.isa (.var 0) .bool)) (.cmp .eq (.var 0) (.var 1))))]⟩
-- k01 k02 k03 k04 k05 k06 k07 k08 k10 k11 k12 k16 k18 k19 k20 k21 k22
def d__law_count : Def := ⟨2, 4, [
  .new 2 (.bin .mul (.list [.con (.int 1)]) (.bin .add (.bin .add (.bi .len [.var 1]) (.var 0)) (.con (.int 2)))),
  .for_ (.name 3) (.rev (.bi .listRange [.bi .len [.var 1]])) [.setix 2 (.var 3) (.bin .add (.idx (.var 2) (.bin .add (.var 3) (.con (.int 1)))) (.bin .mul (.idx (.var 1) (.var 3)) (.idx (.var 2) (.bin .add (.bin .add (.var 3) (.con (.int 1))) (.var 0)))))],
  .ret (.idx (.var 2) (.con (.int 0)))]⟩
-- k01 k02 k03 k04 k05 k06 k07 k08 k10 k11 k12 k14 k16 k17 k18 k19 k20 k21
def d__law_some_beats : Def := ⟨3, 5, [
  .new 3 (.list []),
  .for_ (.name 4) (.rng [.call 8 [.var 0, .var 1, .bin .add (.var 2) (.con (.int 1))]]) [.append 3 (.idx (.list [.con (.int 1), .con (.int 1), .con (.int 1), .con (.int 2), .con (.int 0), .call 8 [.var 0, .var 1, .con (.int 4)]]) (.call 8 [.var 0, .var 1, .con (.int 6)]))],
  .ret (.bi .tuple [.var 3])]⟩
-- k01
def d_law_k01 : Def := ⟨1, 11, [
  .loc 1 (.list []),
  .par [(2, false), (3, false)] [.call 8 [.var 0, .var 1, .con (.int 6)], .call 31 [.var 0, .var 1, .con (.int 8)]],
  .ite (.not (.call 29 [.call 80 [.var 2, .var 3], .call 7 [.var 2, .var 3]])) [.ret (.con (.bl false))] [],
  .ite (.cmp .ne (.lc (.call 80 [.con (.int 0), .bin .mul (.tup [.con (.int 1)]) (.var 4)]) [4] (.name 4) (.rng [.con (.int 9)]) []) (.list [.con (.int 1), .con (.int 2), .con (.int 4), .con (.int 8), .con (.int 16), .con (.int 32), .con (.int 64), .con (.int 128), .con (.int 256)])) [.ret (.con (.bl false))] [],
  .ite (.or (.cmp .ne (.lc (.call 80 [.con (.int 1), .bin .mul (.tup [.con (.int 1)]) (.var 4)]) [4] (.name 4) (.rng [.con (.int 9)]) []) (.list [.con (.int 1), .con (.int 2), .con (.int 3), .con (.int 5), .con (.int 8), .con (.int 13), .con (.int 21), .con (.int 34), .con (.int 55)])) (.cmp .ne (.call 80 [.con (.int 5), .bin .mul (.tup [.con (.int 1)]) (.con (.int 8))]) (.con (.int 12)))) [.ret (.con (.bl false))] [],
  .ite (.cmp .ne (.lc (.call 80 [.con (.int 0), .bin .mul (.tup [.con (.int 2)]) (.var 4)]) [4] (.name 4) (.rng [.con (.int 5)]) []) (.list [.con (.int 1), .con (.int 3), .con (.int 9), .con (.int 27), .con (.int 81)])) [.ret (.con (.bl false))] [],
  .ite (.or (.cmp .ne (.call 80 [.con (.int 1), .bin .mul (.tup [.con (.int 2)]) (.con (.int 4))]) (.con (.int 21))) (.cmp .ne (.call 80 [.con (.int 2), .bin .mul (.tup [.con (.int 3)]) (.con (.int 4))]) (.con (.int 22)))) [.ret (.con (.bl false))] [],
  .ite (.and (.cmp .lt (.var 2) (.con (.int 5))) (.cmp .gt (.call 80 [.bin .add (.var 2) (.con (.int 1)), .var 3]) (.call 80 [.var 2, .var 3]))) [.ret (.con (.bl false))] [],
  .asg (.name 5) (.lc (.bin .mul (.idx (.var 3) (.var 6)) (.call 7 [.var 2, .slc (.var 3) [.bin .add (.bin .add (.var 6) (.con (.int 1))) (.var 2)] []])) [6] (.name 6) (.rng [.bi .len [.var 3]]) []),
  .ite (.or (.cmp .ne (.call 115 [.var 2, .var 3]) (.var 5)) (.cmp .ne (.bin .add (.bi .sum [.var 5]) (.con (.int 1))) (.call 80 [.var 2, .var 3]))) [.ret (.con (.bl false))] [],
  .par [(7, false), (8, false)] [.bin .add (.con (.int 1)) (.call 8 [.var 0, .var 1, .con (.int 64)]), .bin .add (.con (.int 1)) (.call 8 [.var 0, .var 1, .con (.int 3)])],
  .par [(9, false), (4, false)] [.call 54 [.var 7, .var 2, .var 8], .con (.int 0)],
  .while_ (.cmp .lt (.call 7 [.var 2, .bin .mul (.tup [.var 8]) (.var 4)]) (.var 7)) [.asg (.name 4) (.bin .add (.var 4) (.con (.int 1)))],
  .ite (.or (.not (.call 29 [.var 9, .var 4])) (.cmp .isnt (.call 69 [.tup [.var 7, .var 2, .var 3]]) (.con (.bl true)))) [.ret (.con (.bl false))] [],
  .ite (.cmp .eq (.var 3) (.tup [])) [.ret (.cmp .eq (.call 80 [.var 2, .var 3]) (.con (.int 1)))] [],
  .asg (.name 6) (.call 8 [.var 0, .var 1, .bi .len [.var 3]]),
  .asg (.name 10) (.call 80 [.var 2, .bin .add (.bin .add (.slc (.var 3) [] [.var 6]) (.tup [.con (.int 0)])) (.slc (.var 3) [.bin .add (.var 6) (.con (.int 1))] [])]),
  .ret (.ite (.cmp .gt (.idx (.var 3) (.var 6)) (.con (.int 0))) (.cmp .lt (.var 10) (.call 80 [.var 2, .var 3])) (.cmp .eq (.var 10) (.call 80 [.var 2, .var 3])))]⟩
-- k02 k03 k04 k06 k07 k08 k09 k10 k11 k12 k13 k14 k15 k16 k18 k20 k21 k22
def d_need_game : Def := ⟨1, 1, [
  .ite (.not (.call 62 [.var 0])) [.raise_ 0] []]⟩
-- k02 k03 k04 k05 k06 k07 k08 k09 k10 k11 k12 k13 k14 k15 k16 k20 k21 k22
def d_are_cuts : Def := ⟨3, 5, [
  .ite (.or (.not (.isa (.var 2) .tuple)) (.or (.cmp .gt (.bi .len [.var 2]) (.var 1)) (.not (.bi .all [.lc (.call 74 [.var 3, .con (.int 1), .bin .sub (.var 0) (.con (.int 1))]) [3] (.name 3) (.var 2) []])))) [.ret (.con (.bl false))] [],
  .ret (.bi .all [.lc (.cmp .lt (.var 3) (.var 4)) [3, 4] (.tup [.name 3, .name 4]) (.zip [.var 2, .slc (.var 2) [.con (.int 1)] []]) []])]⟩
-- k02 k03 k04 k06 k07 k08 k09 k10 k11 k12 k13 k14 k15 k16 k18 k20 k21 k22
def d_due_of : Def := ⟨2, 2, [
  .ret (.ite (.cmp .gt (.bi .len [.var 1]) (.var 0)) (.idx (.var 1) (.bin .sub (.bin .sub (.bi .len [.var 1]) (.con (.int 1))) (.var 0))) (.tup []))]⟩
-- k02 k03 k04 k06 k07 k08 k09 k10 k15 k16 k20 k21 k22
def d_good_from : Def := ⟨3, 5, [
  .ite (.cmp .eq (.bi .len [.var 1]) (.bi .len [.idx (.var 0) (.con (.int 2))])) [.ret (.cmp .eq (.var 2) (.tup [.con (.str [101, 110, 100])]))] [],
  .ite (.or (.not (.isa (.var 2) .tuple)) (.or (.cmp .ne (.bi .len [.var 2]) (.con (.int 3))) (.or (.not (.isa (.idx (.var 2) (.con (.int 0))) .str)) (.cmp .ne (.idx (.var 2) (.con (.int 0))) (.con (.str [97, 115, 107])))))) [.ret (.con (.bl false))] [],
  .ite (.or (.not (.call 44 [.idx (.var 0) (.con (.int 0)), .idx (.idx (.var 0) (.con (.int 2))) (.bi .len [.var 1]), .idx (.var 2) (.con (.int 1))])) (.not (.isa (.idx (.var 2) (.con (.int 2))) .tuple))) [.ret (.con (.bl false))] [],
  .asg (.name 3) (.bin .add (.var 1) (.tup [.idx (.var 2) (.con (.int 1))])),
  .ite (.cmp .ne (.bi .len [.idx (.var 2) (.con (.int 2))]) (.bin .add (.bi .len [.call 52 [.idx (.var 0) (.con (.int 1)), .var 3]]) (.con (.int 1)))) [.ret (.con (.bl false))] [],
  .ret (.bi .all [.lc (.call 61 [.var 0, .var 3, .var 4]) [4] (.name 4) (.idx (.var 2) (.con (.int 2))) []])]⟩
-- k02 k03 k04 k06 k07 k08 k09 k10 k15 k16 k20 k21 k22
def d_good_plan : Def := ⟨2, 2, [
  .ret (.call 61 [.var 0, .tup [], .var 1])]⟩
-- k02 k03 k04 k06 k07 k08 k09 k10
def d_is_plan : Def := ⟨2, 2, [
  .expr (.call 86 [.var 0]),
  .ret (.call 63 [.var 0, .var 1])]⟩
-- k02 k03 k04 k06 k07 k08 k09 k10 k15 k16 k20 k21 k22
def d_need_plan : Def := ⟨2, 2, [
  .expr (.call 86 [.var 0]),
  .ite (.not (.call 63 [.var 0, .var 1])) [.raise_ 1] []]⟩
-- k02 k06 k07 k08 k09 k11 k12 k13 k14 k15 k16 k20 k21 k22
def d_need_thing : Def := ⟨2, 2, [
  .ite (.not (.call 74 [.var 1, .con (.int 0), .bin .sub (.idx (.var 0) (.con (.int 0))) (.con (.int 1))])) [.raise_ 2] []]⟩
-- k02 k03 k04 k06 k07 k08 k09 k11 k12 k13 k14 k15 k16 k20 k21 k22
def d_answer_to : Def := ⟨2, 3, [
  .ret (.bi .len [.lc (.var 2) [2] (.name 2) (.var 0) [.cmp .le (.var 2) (.var 1)]])]⟩
-- k02 k03 k04 k06 k07 k08 k09 k15 k16 k20 k21 k22
def d_way_of : Def := ⟨3, 4, [
  .asg (.name 3) (.tup []),
  .while_ (.cmp .eq (.idx (.var 1) (.con (.int 0))) (.con (.str [97, 115, 107]))) [.asg (.name 3) (.bin .add (.var 3) (.tup [.idx (.var 1) (.con (.int 1))])), .asg (.name 1) (.idx (.idx (.var 1) (.con (.int 2))) (.call 40 [.call 52 [.idx (.var 0) (.con (.int 1)), .var 3], .var 2]))],
  .ret (.var 3)]⟩
-- k02 k03 k04 k06 k07 k08 k09 k11 k12 k13 k14 k15 k16 k20 k21 k22
def d_answers_to : Def := ⟨2, 3, [
  .ret (.bi .tuple [.lc (.call 40 [.var 2, .var 1]) [2] (.name 2) (.var 0) [.cmp .ne (.var 2) (.tup [])]])]⟩
-- k02 k06 k07 k08 k09 k15 k16 k20 k21 k22
def d_need_all : Def := ⟨3, 3, [
  .expr (.call 88 [.var 0, .var 1]),
  .expr (.call 90 [.var 0, .var 2])]⟩
-- k02 k06 k07 k08 k09 k15
def d_way : Def := ⟨3, 3, [
  .expr (.call 84 [.var 0, .var 1, .var 2]),
  .ret (.call 112 [.var 0, .var 1, .var 2])]⟩
-- k02 k06 k08 k09
def d_heard : Def := ⟨3, 3, [
  .expr (.call 84 [.var 0, .var 1, .var 2]),
  .ret (.call 41 [.call 112 [.var 0, .var 1, .var 2], .var 2])]⟩
-- k02 k03 k04 k06 k07 k08 k09 k15 k16 k20 k21 k22
def d_looks_of : Def := ⟨2, 5, [
  .new 2 (.list []),
  .for_ (.name 3) (.rng [.idx (.var 0) (.con (.int 0))]) [.asg (.name 4) (.call 112 [.var 0, .var 1, .var 3]), .append 2 (.tup [.var 4, .call 41 [.var 4, .var 3]])],
  .frz 2,
  .ret (.var 2)]⟩
-- k02 k03 k04 k06 k07 k08 k09 k15 k16 k20 k21 k22
def d_parts_of : Def := ⟨2, 5, [
  .new 2 (.dictN),
  .for_ (.tup [.name 3, .name 4]) (.enm [.call 79 [.var 0, .var 1]]) [.setix 2 (.var 4) (.bin .add (.getd (.var 2) (.var 4) (.list [])) (.list [.var 3]))],
  .frz 2,
  .ret (.bi .sorted [.lc (.idx (.var 2) (.var 4)) [4] (.name 4) (.var 2) []])]⟩
-- k02 k03 k04 k06 k07 k08 k09 k16
def d_parts : Def := ⟨2, 2, [
  .expr (.call 88 [.var 0, .var 1]),
  .ret (.call 96 [.var 0, .var 1])]⟩
-- k02 k03 k04 k07 k09 k15
def d_finds_all : Def := ⟨2, 2, [
  .expr (.call 88 [.var 0, .var 1]),
  .ret (.cmp .eq (.bi .len [.call 96 [.var 0, .var 1]]) (.idx (.var 0) (.con (.int 0))))]⟩
-- k02 k04 k09
def d_not_parted : Def := ⟨2, 3, [
  .expr (.call 88 [.var 0, .var 1]),
  .for_ (.name 2) (.call 96 [.var 0, .var 1]) [.ite (.cmp .gt (.bi .len [.var 2]) (.con (.int 1))) [.ret (.tup [.idx (.var 2) (.con (.int 0)), .idx (.var 2) (.con (.int 1))])] []],
  .ret (.con (.non))]⟩
-- k02 k09 k11 k12 k13 k14 k15 k16
def d_narrowed : Def := ⟨3, 6, [
  .asg (.tup [.name 3, .name 4]) (.var 0),
  .for_ (.name 5) (.var 1) [.ite (.cmp .lt (.var 2) (.var 5)) [.asg (.name 4) (.bi .min [.var 4, .var 5])] [.asg (.name 3) (.bi .max [.var 3, .var 5])]],
  .ret (.tup [.var 3, .var 4])]⟩
-- k02 k09 k15 k16
def d_idle : Def := ⟨3, 8, [
  .expr (.call 84 [.var 0, .var 1, .var 2]),
  .par [(3, true), (4, false)] [.list [], .tup [.con (.int 0), .idx (.var 0) (.con (.int 0))]],
  .for_ (.tup [.name 5, .name 6]) (.enm [.call 112 [.var 0, .var 1, .var 2]]) [.asg (.name 7) (.call 83 [.var 4, .var 6, .var 2]), .ite (.cmp .eq (.var 7) (.var 4)) [.append 3 (.var 5)] [], .asg (.name 4) (.var 7)],
  .frz 3,
  .ret (.var 3)]⟩
-- k02 k03 k05 k06 k07 k08 k09 k10 k11 k12 k14 k16 k20
def d__law_pick : Def := ⟨3, 3, [
  .ret (.idx (.var 2) (.call 8 [.var 0, .var 1, .bi .len [.var 2]]))]⟩
-- k02 k05 k12 k13
def d__law_same_truth : Def := ⟨2, 2, [
  .ret (.and (.isa (.var 0) .bool) (.cmp .eq (.var 0) (.var 1)))]⟩
-- k02 k06 k07 k08 k10 k11 k12 k16 k20
def d__law_some_game : Def := ⟨3, 7, [
  .par [(3, false), (4, false)] [.call 8 [.var 0, .var 1, .con (.int 6)], .call 31 [.var 0, .var 1, .var 2]],
  .asg (.name 5) (.call 7 [.var 3, .var 4]),
  .asg (.name 6) (.list [.var 5, .var 5, .bin .add (.var 5) (.con (.int 1)), .bin .add (.con (.int 1)) (.call 8 [.var 0, .var 1, .var 5]), .bin .add (.con (.int 1)) (.call 8 [.var 0, .var 1, .con (.int 64)])]),
  .ret (.tup [.bi .min [.con (.int 64), .call 25 [.var 0, .var 1, .var 6]], .var 3, .var 4])]⟩
-- k02 k04 k06 k07 k08 k10 k11 k16 k18 k20
def d__law_due : Def := ⟨2, 2, [
  .ret (.ite (.cmp .gt (.bi .len [.var 1]) (.var 0)) (.idx (.var 1) (.bin .sub (.bin .sub (.bi .len [.var 1]) (.con (.int 1))) (.var 0))) (.tup []))]⟩
-- k02 k04 k11 k18 k20
def d__law_reply : Def := ⟨2, 3, [
  .ret (.bi .sum [.lc (.bi .int [.cmp .le (.var 2) (.var 1)]) [2] (.name 2) (.var 0) []])]⟩
-- k02 k04 k05 k06 k07 k08 k10 k11 k12 k16 k20
def d__law_some_cuts : Def := ⟨5, 10, [
  .asg (.tup [.name 5, .name 6]) (.var 4),
  .new 7 (.list []),
  .for_ (.name 8) (.rng [.var 3]) [.asg (.name 9) (.call 8 [.var 0, .var 1, .var 2]), .ite (.and (.cmp .gt (.bin .sub (.var 6) (.var 5)) (.con (.int 1))) (.cmp .gt (.call 8 [.var 0, .var 1, .con (.int 4)]) (.con (.int 0)))) [.asg (.name 9) (.bin .add (.bin .add (.var 5) (.con (.int 1))) (.call 8 [.var 0, .var 1, .bin .sub (.bin .sub (.var 6) (.var 5)) (.con (.int 1))]))] [], .ite (.and (.cmp .gt (.var 9) (.con (.int 0))) (.cmp .nin (.var 9) (.var 7))) [.append 7 (.var 9)] []],
  .ret (.bi .tuple [.bi .sorted [.var 7]])]⟩
-- k02 k04 k06 k07 k08 k10 k16 k20
def d__law_some_plan : Def := ⟨5, 14, [
  .ite (.cmp .eq (.bi .len [.var 3]) (.bi .len [.idx (.var 2) (.con (.int 2))])) [.ret (.tup [.con (.str [101, 110, 100])])] [],
  .asg (.tup [.name 5, .name 6]) (.var 4),
  .asg (.name 7) (.call 32 [.var 0, .var 1, .idx (.var 2) (.con (.int 0)), .idx (.idx (.var 2) (.con (.int 2))) (.bi .len [.var 3]), .var 4]),
  .asg (.name 8) (.bin .add (.var 3) (.tup [.var 7])),
  .par [(9, false), (10, true)] [.bin .add (.bin .add (.tup [.con (.int 0)]) (.call 9 [.idx (.var 2) (.con (.int 1)), .var 8])) (.tup [.idx (.var 2) (.con (.int 0))]), .list []],
  .for_ (.tup [.name 11, .name 12]) (.zip [.var 9, .slc (.var 9) [.con (.int 1)] []]) [.asg (.name 13) (.tup [.bi .max [.var 5, .var 11], .bi .min [.var 6, .var 12]]), .append 10 (.call 34 [.var 0, .var 1, .var 2, .var 8, .ite (.cmp .lt (.idx (.var 13) (.con (.int 0))) (.idx (.var 13) (.con (.int 1)))) (.var 13) (.tup [.var 5, .bin .add (.var 5) (.con (.int 1))])])],
  .ret (.tup [.con (.str [97, 115, 107]), .var 7, .bi .tuple [.var 10]])]⟩
-- k02 k04 k18 k20
def d__law_path : Def := ⟨3, 6, [
  .par [(3, false), (4, false)] [.tup [], .var 1],
  .while_ (.cmp .eq (.idx (.var 4) (.con (.int 0))) (.con (.str [97, 115, 107]))) [.asg (.name 3) (.bin .add (.var 3) (.tup [.idx (.var 4) (.con (.int 1))])), .asg (.name 4) (.idx (.idx (.var 4) (.con (.int 2))) (.call 27 [.call 9 [.idx (.var 0) (.con (.int 1)), .var 3], .var 2]))],
  .ret (.tup [.var 3, .bi .tuple [.lc (.call 27 [.var 5, .var 2]) [5] (.name 5) (.var 3) [.cmp .ne (.var 5) (.tup [])]]])]⟩
-- k02
def d__law_classes : Def := ⟨2, 6, [
  .par [(2, true), (3, true)] [.list [], .list []],
  .for_ (.name 4) (.rng [.idx (.var 0) (.con (.int 0))]) [.asg (.name 5) (.call 24 [.var 0, .var 1, .var 4]), .ite (.cmp .inn (.var 5) (.var 2)) [.appendAt (.idx (.var 3) (.bi .index [.var 2, .var 5])) (.var 4)] [.append 2 (.var 5), .append 3 (.mk (.list [.var 4]))]],
  .frz 3,
  .ret (.var 3)]⟩
-- k02
def d__law_idle : Def := ⟨2, 11, [
  .new 2 (.list []),
  .for_ (.tup [.name 3, .name 4]) (.enm [.idx (.idx (.var 0) (.var 1)) (.con (.int 0))]) [.asg (.name 5) (.slc (.idx (.idx (.var 0) (.var 1)) (.con (.int 0))) [] [.var 3]), .asg (.name 6) (.lc (.var 9) [9, 10] (.tup [.name 9, .name 10]) (.enm [.var 0]) [.cmp .eq (.slc (.idx (.var 10) (.con (.int 0))) [] [.var 3]) (.var 5)]), .asg (.name 7) (.lc (.call 27 [.var 8, .var 1]) [8] (.name 8) (.var 5) []), .asg (.name 6) (.lc (.var 9) [9] (.name 9) (.var 6) [.cmp .eq (.lc (.call 27 [.var 8, .var 9]) [8] (.name 8) (.var 5) []) (.var 7)]), .ite (.cmp .eq (.lc (.var 9) [9] (.name 9) (.var 6) [.cmp .ne (.call 27 [.var 4, .var 9]) (.call 27 [.var 4, .var 1])]) (.list [])) [.append 2 (.var 3)] []],
  .frz 2,
  .ret (.var 2)]⟩
-- k02
def d_law_k02 : Def := ⟨1, 10, [
  .loc 1 (.list []),
  .asg (.name 2) (.call 33 [.var 0, .var 1, .con (.int 6)]),
  .asg (.name 3) (.call 34 [.var 0, .var 1, .var 2, .tup [], .tup [.con (.int 0), .idx (.var 2) (.con (.int 0))]]),
  .ite (.cmp .isnt (.call 71 [.var 2, .var 3]) (.con (.bl true))) [.ret (.con (.bl false))] [],
  .asg (.name 4) (.call 6 [.var 2, .var 3]),
  .ite (.or (.bad) (.not (.call 30 [.call 55 [.var 2, .var 3], .cmp .eq (.bi .len [.var 4]) (.idx (.var 2) (.con (.int 0)))]))) [.ret (.con (.bl false))] [],
  .asg (.name 5) (.bi .sorted [.lc (.bi .tuple [.slc (.var 6) [] [.con (.int 2)]]) [6] (.name 6) (.var 4) [.cmp .gt (.bi .len [.var 6]) (.con (.int 1))]]),
  .ite (.cmp .ne (.call 92 [.var 2, .var 3]) (.ite (.cmp .ne (.var 5) (.list [])) (.idx (.var 5) (.con (.int 0))) (.con (.non)))) [.ret (.con (.bl false))] [],
  .asg (.name 7) (.lc (.call 24 [.var 2, .var 3, .var 8]) [8] (.name 8) (.rng [.idx (.var 2) (.con (.int 0))]) []),
  .for_ (.name 9) (.rng [.con (.int 4)]) [.asg (.name 8) (.call 8 [.var 0, .var 1, .idx (.var 2) (.con (.int 0))]), .ite (.or (.cmp .ne (.call 111 [.var 2, .var 3, .var 8]) (.idx (.idx (.var 7) (.var 8)) (.con (.int 0)))) (.cmp .ne (.call 66 [.var 2, .var 3, .var 8]) (.idx (.idx (.var 7) (.var 8)) (.con (.int 1))))) [.ret (.con (.bl false))] [], .ite (.cmp .ne (.call 67 [.var 2, .var 3, .var 8]) (.call 12 [.var 7, .var 8])) [.ret (.con (.bl false))] []],
  .ret (.con (.bl true))]⟩
-- k03 k04 k06 k07 k09 k14 k15 k18 k21 k22
def d_pieces_of : Def := ⟨3, 6, [
  .par [(3, true), (4, false)] [.list [], .idx (.var 0) (.con (.int 0))],
  .while_ (.cmp .gt (.var 1) (.con (.int 0))) [.asg (.name 5) (.bi .min [.var 1, .var 2]), .append 3 (.tup [.var 4, .bin .add (.var 4) (.var 5)]), .par [(4, false), (1, false)] [.bin .add (.var 4) (.var 5), .bin .sub (.var 1) (.var 5)]],
  .ret (.bi .tuple [.var 3])]⟩
-- k03 k04 k06 k07 k09 k14 k15 k18 k21 k22
def d_apart_of : Def := ⟨3, 4, [
  .asg (.name 3) (.bin .sub (.idx (.var 2) (.con (.int 1))) (.idx (.var 2) (.con (.int 0)))),
  .ite (.or (.cmp .eq (.var 3) (.con (.int 1))) (.cmp .eq (.idx (.var 1) (.con (.int 0))) (.con (.int 0)))) [.ret (.tup [])] [],
  .ret (.call 97 [.var 2, .bi .max [.con (.int 1), .bin .sub (.var 3) (.call 81 [.var 0, .slc (.var 1) [.con (.int 1)] []])], .call 81 [.var 0, .slc (.var 1) [.bin .add (.con (.int 1)) (.var 0)] []]])]⟩
-- k03 k04 k06 k07 k09 k14 k15 k18 k21 k22
def d_plan_from : Def := ⟨4, 14, [
  .ite (.cmp .eq (.var 1) (.tup [])) [.ret (.tup [.con (.str [101, 110, 100])])] [],
  .asg (.name 4) (.call 42 [.var 0, .var 1, .var 3]),
  .asg (.name 5) (.bi .tuple [.lc (.var 7) [6, 7] (.tup [.name 6, .name 7]) (.var 4) []]),
  .ite (.cmp .ne (.var 5) (.tup [])) [.asg (.name 3) (.tup [.idx (.var 5) (.neg (.con (.int 1))), .idx (.var 3) (.con (.int 1))])] [],
  .asg (.name 2) (.bin .add (.var 2) (.tup [.tup [.var 5, .var 4]])),
  .asg (.name 8) (.call 98 [.var 0, .slc (.var 1) [.con (.int 1)] [], .var 2, .var 3]),
  .asg (.name 9) (.call 52 [.var 0, .bi .tuple [.lc (.idx (.var 10) (.con (.int 0))) [10] (.name 10) (.var 2) []]]),
  .ite (.cmp .eq (.var 9) (.tup [])) [.ret (.tup [.con (.str [97, 115, 107]), .var 5, .tup [.var 8]])] [],
  .asg (.name 11) (.bin .sub (.bin .sub (.bi .len [.var 2]) (.con (.int 1))) (.var 0)),
  .ite (.cmp .eq (.idx (.idx (.var 2) (.var 11)) (.con (.int 1))) (.tup [])) [.ret (.tup [.con (.str [97, 115, 107]), .var 5, .bin .mul (.tup [.var 8]) (.bin .add (.bi .len [.var 9]) (.con (.int 1)))])] [],
  .asg (.name 12) (.bin .add (.slc (.var 2) [] [.bin .add (.var 11) (.con (.int 1))]) (.bi .tuple [.lc (.tup [.idx (.var 10) (.con (.int 0)), .tup []]) [10] (.name 10) (.slc (.var 2) [.bin .add (.var 11) (.con (.int 1))] []) []])),
  .ret (.tup [.con (.str [97, 115, 107]), .var 5, .bin .add (.bi .tuple [.lc (.call 98 [.var 0, .slc (.var 1) [.con (.int 1)] [], .var 12, .var 13]) [13] (.name 13) (.idx (.idx (.var 2) (.var 11)) (.con (.int 1))) []]) (.tup [.var 8])])]⟩
-- k03 k04 k06 k07 k09 k14 k15 k18 k21 k22
def d_best : Def := ⟨1, 4, [
  .expr (.call 86 [.var 0]),
  .asg (.tup [.name 1, .name 2, .name 3]) (.var 0),
  .ite (.cmp .gt (.var 1) (.call 81 [.var 2, .var 3])) [.raise_ 3] [],
  .ret (.call 98 [.var 2, .var 3, .tup [], .tup [.con (.int 0), .var 1]])]⟩
-- k03
def d__law_pieces : Def := ⟨3, 8, [
  .asg (.tup [.name 3, .name 4]) (.var 2),
  .ite (.or (.cmp .eq (.bin .sub (.var 4) (.var 3)) (.con (.int 1))) (.cmp .eq (.idx (.var 1) (.con (.int 0))) (.con (.int 0)))) [.ret (.list [])] [],
  .par [(5, false), (6, false), (7, true)] [.bi .max [.con (.int 1), .bin .sub (.bin .sub (.var 4) (.var 3)) (.call 7 [.var 0, .slc (.var 1) [.con (.int 1)] []])], .call 7 [.var 0, .slc (.var 1) [.bin .add (.con (.int 1)) (.var 0)] []], .list []],
  .while_ (.cmp .gt (.var 5) (.con (.int 0))) [.append 7 (.tup [.var 3, .bin .add (.var 3) (.bi .min [.var 5, .var 6])]), .par [(3, false), (5, false)] [.bin .add (.var 3) (.bi .min [.var 5, .var 6]), .bin .sub (.var 5) (.bi .min [.var 5, .var 6])]],
  .frz 7,
  .ret (.var 7)]⟩
-- k03
def d__law_made : Def := ⟨4, 16, [
  .ite (.cmp .eq (.var 1) (.tup [])) [.ret (.tup [.con (.str [101, 110, 100])])] [],
  .asg (.name 4) (.call 26 [.var 0, .var 1, .var 3]),
  .asg (.name 5) (.bi .tuple [.lc (.var 7) [6, 7] (.tup [.name 6, .name 7]) (.var 4) []]),
  .asg (.name 8) (.tup [.bi .max [.bin .add (.tup [.idx (.var 3) (.con (.int 0))]) (.var 5)], .idx (.var 3) (.con (.int 1))]),
  .asg (.name 9) (.bin .add (.var 2) (.list [.tup [.var 5, .var 4]])),
  .asg (.name 10) (.call 17 [.var 0, .slc (.var 1) [.con (.int 1)] [], .var 9, .var 8]),
  .ite (.or (.cmp .le (.bi .len [.var 9]) (.var 0)) (.cmp .eq (.idx (.idx (.var 9) (.bin .sub (.bin .sub (.bi .len [.var 9]) (.con (.int 1))) (.var 0))) (.con (.int 0))) (.tup []))) [.ret (.tup [.con (.str [97, 115, 107]), .var 5, .tup [.var 10]])] [],
  .asg (.name 11) (.bin .sub (.bin .sub (.bi .len [.var 9]) (.con (.int 1))) (.var 0)),
  .asg (.name 12) (.bin .add (.slc (.var 9) [] [.bin .add (.var 11) (.con (.int 1))]) (.lc (.tup [.idx (.var 13) (.con (.int 0)), .list []]) [13] (.name 13) (.slc (.var 9) [.bin .add (.var 11) (.con (.int 1))] []) [])),
  .asg (.name 14) (.lc (.call 17 [.var 0, .slc (.var 1) [.con (.int 1)] [], .var 12, .var 15]) [15] (.name 15) (.idx (.idx (.var 9) (.var 11)) (.con (.int 1))) []),
  .ite (.cmp .eq (.var 14) (.list [])) [.asg (.name 14) (.bin .mul (.list [.var 10]) (.bi .len [.idx (.idx (.var 9) (.var 11)) (.con (.int 0))]))] [],
  .ret (.tup [.con (.str [97, 115, 107]), .var 5, .bi .tuple [.bin .add (.var 14) (.list [.var 10])]])]⟩
-- k03
def d_law_k03 : Def := ⟨1, 9, [
  .loc 1 (.list []),
  .par [(2, false), (3, false)] [.call 8 [.var 0, .var 1, .con (.int 6)], .call 31 [.var 0, .var 1, .con (.int 7)]],
  .asg (.name 4) (.bi .min [.con (.int 64), .call 7 [.var 2, .var 3]]),
  .asg (.name 5) (.call 25 [.var 0, .var 1, .list [.var 4, .var 4, .bin .add (.con (.int 1)) (.call 8 [.var 0, .var 1, .var 4])]]),
  .asg (.name 6) (.tup [.var 5, .var 2, .var 3]),
  .asg (.name 7) (.call 47 [.var 6]),
  .ite (.or (.cmp .ne (.var 7) (.call 17 [.var 2, .var 3, .list [], .tup [.con (.int 0), .var 5]])) (.cmp .isnt (.call 71 [.var 6, .var 7]) (.con (.bl true)))) [.ret (.con (.bl false))] [],
  .ret (.and (.cmp .is (.call 55 [.var 6, .var 7]) (.con (.bl true))) (.cmp .eq (.call 95 [.var 6, .var 7]) (.lc (.list [.var 8]) [8] (.name 8) (.rng [.var 5]) [])))]⟩
-- k04 k05
def d__law_rows_of : Def := ⟨2, 8, [
  .par [(2, false), (3, false)] [.list [.tup []], .list [.tup []]],
  .for_ (.name 4) (.rng [.var 1]) [.new 5 (.list []), .for_ (.name 6) (.var 3) [.extend 5 (.lc (.bin .add (.var 6) (.tup [.var 7])) [7] (.name 7) (.rng [.con (.int 1), .var 0]) [.or (.cmp .eq (.var 6) (.tup [])) (.cmp .gt (.var 7) (.idx (.var 6) (.neg (.con (.int 1)))))])], .frz 5, .par [(2, false), (3, false)] [.bin .add (.var 2) (.var 5), .var 5]],
  .ret (.bi .sorted [.var 2])]⟩
-- k04 k05
def d__law_behind_so : Def := ⟨2, 14, [
  .asg (.tup [.name 2, .name 3, .name 4, .name 5]) (.var 0),
  .asg (.name 6) (.bin .add (.var 4) (.tup [.var 1])),
  .ite (.cmp .le (.bi .len [.var 6]) (.var 3)) [.ret (.list [.tup [.var 2, .var 3, .var 6, .slc (.var 5) [.con (.int 1)] []]])] [],
  .par [(7, false), (8, true)] [.bin .add (.bin .add (.tup [.con (.int 0)]) (.idx (.var 6) (.con (.int 0)))) (.tup [.var 2]), .list []],
  .for_ (.tup [.name 9, .name 10]) (.zip [.var 7, .slc (.var 7) [.con (.int 1)] []]) [.asg (.name 11) (.lc (.bi .tuple [.lc (.bin .sub (.var 13) (.var 9)) [13] (.name 13) (.var 12) [.chain .lt .lt (.var 9) (.var 13) (.var 10)]]) [12] (.name 12) (.slc (.var 6) [.con (.int 1)] []) []), .append 8 (.tup [.bin .sub (.var 10) (.var 9), .var 3, .bi .tuple [.var 11], .slc (.var 5) [.con (.int 1)] []])],
  .frz 8,
  .ret (.var 8)]⟩
-- k04 k05
def d__law_can_so : Def := ⟨2, 11, [
  .asg (.tup [.name 2, .name 3, .name 4, .name 5]) (.var 0),
  .new 6 (.list []),
  .for_ (.name 7) (.var 4) [.extend 6 (.var 7)],
  .ite (.or (.cmp .eq (.var 2) (.con (.int 1))) (.cmp .eq (.bi .len [.lc (.var 8) [8] (.name 8) (.rng [.con (.int 1), .var 2]) [.cmp .inn (.var 8) (.var 6)]]) (.bin .sub (.var 2) (.con (.int 1))))) [.ret (.con (.bl true))] [],
  .ite (.cmp .eq (.var 5) (.tup [])) [.ret (.con (.bl false))] [],
  .ite (.cmp .nin (.var 0) (.var 1)) [.setix 1 (.var 0) (.con (.bl false)), .for_ (.name 9) (.rev (.call 28 [.var 2, .idx (.var 5) (.con (.int 0))])) [.ite (.not (.idx (.var 1) (.var 0))) [.setix 1 (.var 0) (.cmp .eq (.lc (.con (.int 1)) [10] (.name 10) (.call 3 [.var 0, .var 9]) [.not (.call 4 [.var 10, .var 1])]) (.list []))] []]] [],
  .ret (.idx (.var 1) (.var 0))]⟩
-- k04
def d__law_wider : Def := ⟨3, 5, [
  .ite (.cmp .eq (.idx (.var 0) (.con (.int 0))) (.con (.str [101, 110, 100]))) [.ret (.var 0)] [],
  .asg (.name 3) (.bi .tuple [.lc (.ite (.cmp .ge (.var 4) (.var 1)) (.bin .add (.var 4) (.var 2)) (.var 4)) [4] (.name 4) (.idx (.var 0) (.con (.int 1))) []]),
  .ret (.tup [.con (.str [97, 115, 107]), .var 3, .bi .tuple [.lc (.call 38 [.var 4, .var 1, .var 2]) [4] (.name 4) (.idx (.var 0) (.con (.int 2))) []]])]⟩
-- k04
def d_law_k04 : Def := ⟨1, 11, [
  .loc 1 (.list []),
  .par [(2, false), (3, false)] [.call 8 [.var 0, .var 1, .con (.int 6)], .call 31 [.var 0, .var 1, .con (.int 6)]],
  .asg (.name 4) (.call 7 [.var 2, .var 3]),
  .ite (.cmp .lt (.var 4) (.con (.int 64))) [.asg (.name 5) (.bi .min [.con (.int 64), .bin .add (.bin .add (.var 4) (.con (.int 1))) (.call 8 [.var 0, .var 1, .con (.int 2)])]), .asg (.name 6) (.tup [.var 5, .var 2, .var 3]), .asg (.name 7) (.call 34 [.var 0, .var 1, .var 6, .tup [], .tup [.con (.int 0), .var 5]]), .ite (.and (.cmp .gt (.var 4) (.con (.int 1))) (.cmp .eq (.call 8 [.var 0, .var 1, .con (.int 2)]) (.con (.int 0)))) [.asg (.name 7) (.call 38 [.call 47 [.tup [.var 4, .var 2, .var 3]], .bin .add (.con (.int 1)) (.call 8 [.var 0, .var 1, .var 4]), .bin .sub (.var 5) (.var 4)])] [], .asg (.name 8) (.call 92 [.var 6, .var 7]), .ite (.or (.cmp .isnt (.call 71 [.var 6, .var 7]) (.con (.bl true))) (.or (.cmp .is (.var 8) (.con (.non))) (.cmp .isnt (.call 55 [.var 6, .var 7]) (.con (.bl false))))) [.ret (.con (.bl false))] [], .ite (.or (.cmp .ne (.call 24 [.var 6, .var 7, .idx (.var 8) (.con (.int 0))]) (.call 24 [.var 6, .var 7, .idx (.var 8) (.con (.int 1))])) (.cmp .gt (.bi .len [.call 95 [.var 6, .var 7]]) (.var 4))) [.ret (.con (.bl false))] []] [],
  .asg (.name 9) (.call 31 [.var 0, .var 1, .con (.int 4)]),
  .asg (.name 10) (.call 7 [.var 2, .var 9]),
  .ite (.cmp .gt (.var 10) (.con (.int 6))) [.ret (.con (.bl true))] [],
  .ret (.and (.call 4 [.tup [.var 10, .var 2, .tup [], .var 9], .newN]) (.not (.call 4 [.tup [.bin .add (.var 10) (.con (.int 1)), .var 2, .tup [], .var 9], .newN])))]⟩
-- k05 k09 k14 k15 k16
def d_good_state : Def := ⟨1, 2, [
  .ite (.or (.not (.isa (.var 0) .tuple)) (.or (.cmp .ne (.bi .len [.var 0]) (.con (.int 4))) (.not (.call 74 [.idx (.var 0) (.con (.int 0)), .con (.int 1), .glob [] (.int 8)])))) [.ret (.con (.bl false))] [],
  .ite (.or (.not (.call 74 [.idx (.var 0) (.con (.int 1)), .con (.int 0), .glob [] (.int 2)])) (.or (.not (.isa (.idx (.var 0) (.con (.int 2))) .tuple)) (.cmp .gt (.bi .len [.idx (.var 0) (.con (.int 2))]) (.idx (.var 0) (.con (.int 1)))))) [.ret (.con (.bl false))] [],
  .ret (.and (.bi .all [.lc (.call 44 [.idx (.var 0) (.con (.int 0)), .glob [] (.int 3), .var 1]) [1] (.name 1) (.idx (.var 0) (.con (.int 2))) []]) (.call 43 [.idx (.var 0) (.con (.int 3)), .glob [] (.int 4)]))]⟩
-- k05 k09
def d_is_state : Def := ⟨1, 1, [
  .ret (.call 65 [.var 0])]⟩
-- k05 k09 k14 k15 k16
def d_need_state : Def := ⟨1, 1, [
  .ite (.not (.call 65 [.var 0])) [.raise_ 4] []]⟩
-- k05 k09 k14 k15 k16
def d_moved : Def := ⟨3, 4, [
  .ret (.bi .tuple [.lc (.bin .sub (.var 3) (.var 1)) [3] (.name 3) (.var 0) [.chain .lt .lt (.var 1) (.var 3) (.var 2)]])]⟩
-- k05 k09 k14 k15 k16
def d_behind_of : Def := ⟨2, 11, [
  .asg (.tup [.name 2, .name 3, .name 4, .name 5]) (.var 0),
  .asg (.name 4) (.bin .add (.var 4) (.tup [.var 1])),
  .ite (.cmp .le (.bi .len [.var 4]) (.var 3)) [.ret (.list [.tup [.var 2, .var 3, .var 4, .slc (.var 5) [.con (.int 1)] []]])] [],
  .par [(6, false), (7, true)] [.bin .add (.bin .add (.tup [.con (.int 0)]) (.idx (.var 4) (.con (.int 0)))) (.tup [.var 2]), .list []],
  .for_ (.tup [.name 8, .name 9]) (.zip [.var 6, .slc (.var 6) [.con (.int 1)] []]) [.append 7 (.tup [.bin .sub (.var 9) (.var 8), .var 3, .bi .tuple [.lc (.call 82 [.var 10, .var 8, .var 9]) [10] (.name 10) (.slc (.var 4) [.con (.int 1)] []) []], .slc (.var 5) [.con (.int 1)] []])],
  .frz 7,
  .ret (.var 7)]⟩
-- k05 k09 k14 k15 k16
def d_next_cuts : Def := ⟨1, 6, [
  .loc 1 (.list [.tup []]),
  .for_ (.name 2) (.rng [.idx (.idx (.var 0) (.con (.int 3))) (.con (.int 0))]) [.new 3 (.list []), .for_ (.name 4) (.var 1) [.ite (.cmp .eq (.bi .len [.var 4]) (.var 2)) [.extend 3 (.lc (.bin .add (.var 4) (.tup [.var 5])) [5] (.name 5) (.rng [.con (.int 1), .idx (.var 0) (.con (.int 0))]) [.or (.cmp .eq (.var 4) (.tup [])) (.cmp .gt (.var 5) (.idx (.var 4) (.neg (.con (.int 1)))))])] []], .extend 1 (.var 3)],
  .ret (.bi .sorted [.var 1])]⟩
-- k05 k09 k14 k15 k16
def d_can_of : Def := ⟨2, 9, [
  .asg (.tup [.name 2, .name 3, .name 4, .name 5]) (.var 0),
  .ite (.cmp .gt (.var 2) (.call 81 [.var 3, .bin .add (.bi .tuple [.lc (.bi .len [.var 6]) [6] (.name 6) (.var 4) []]) (.var 5)])) [.ret (.con (.bl false))] [],
  .ite (.cmp .eq (.var 5) (.tup [])) [.ret (.cmp .eq (.bi .setLen2 [.lc (.lc (.var 7) [7] (.name 7) (.var 6) []) [6, 7] (.name 6) (.var 4) []]) (.bin .sub (.var 2) (.con (.int 1))))] [],
  .ite (.cmp .nin (.var 0) (.var 1)) [.setix 1 (.var 0) (.bi .any [.lc (.call 70 [.var 0, .var 8, .var 1]) [8] (.name 8) (.call 91 [.var 0]) []])] [],
  .ret (.idx (.var 1) (.var 0))]⟩
-- k05 k09 k14 k15 k16
def d_is_good : Def := ⟨3, 4, [
  .ret (.bi .all [.lc (.call 50 [.var 3, .var 2]) [3] (.name 3) (.call 46 [.var 0, .var 1]) []])]⟩
-- k05 k09 k14 k15
def d_can : Def := ⟨1, 1, [
  .expr (.call 89 [.var 0]),
  .ret (.call 50 [.var 0, .newN])]⟩
-- k05 k09 k14 k15 k16
def d_good : Def := ⟨1, 3, [
  .expr (.call 89 [.var 0]),
  .ite (.cmp .eq (.idx (.var 0) (.con (.int 3))) (.tup [])) [.ret (.list [])] [],
  .loc 1 (.dictN),
  .ret (.lc (.var 2) [2] (.name 2) (.call 91 [.var 0]) [.call 70 [.var 0, .var 2, .var 1]])]⟩
-- k05 k09 k14 k16
def d_behind : Def := ⟨2, 2, [
  .expr (.call 89 [.var 0]),
  .ite (.cmp .eq (.idx (.var 0) (.con (.int 3))) (.tup [])) [.raise_ 10] [],
  .ite (.not (.call 44 [.idx (.var 0) (.con (.int 0)), .idx (.idx (.var 0) (.con (.int 3))) (.con (.int 0)), .var 1])) [.raise_ 9] [],
  .ret (.call 46 [.var 0, .var 1])]⟩
-- k05
def d_law_k05 : Def := ⟨1, 15, [
  .loc 1 (.list []),
  .par [(2, false), (3, false)] [.call 8 [.var 0, .var 1, .con (.int 3)], .call 31 [.var 0, .var 1, .con (.int 3)]],
  .asg (.name 4) (.call 7 [.var 2, .var 3]),
  .asg (.name 5) (.bi .min [.con (.int 6), .call 25 [.var 0, .var 1, .list [.bin .add (.con (.int 1)) (.call 8 [.var 0, .var 1, .con (.int 6)]), .var 4, .bin .add (.var 4) (.con (.int 1))]]]),
  .new 6 (.list []),
  .for_ (.name 7) (.rng [.call 8 [.var 0, .var 1, .bin .add (.var 2) (.con (.int 1))]]) [.append 6 (.call 32 [.var 0, .var 1, .var 5, .con (.int 2), .tup [.con (.int 0), .var 5]])],
  .asg (.name 8) (.bi .tuple [.var 6]),
  .par [(9, false), (10, false)] [.tup [.var 5, .var 2, .var 8, .var 3], .newN],
  .ite (.or (.cmp .isnt (.call 73 [.var 9]) (.con (.bl true))) (.not (.call 30 [.call 49 [.var 9], .call 4 [.var 9, .var 10]]))) [.ret (.con (.bl false))] [],
  .new 11 (.list []),
  .for_ (.name 12) (.ite (.cmp .ne (.var 3) (.tup [])) (.call 28 [.var 5, .idx (.var 3) (.con (.int 0))]) (.list [])) [.asg (.name 13) (.call 3 [.var 9, .var 12]), .ite (.or (.cmp .ne (.call 45 [.var 9, .var 12]) (.var 13)) (.cmp .ne (.lc (.var 14) [14] (.name 14) (.var 13) [.cmp .isnt (.call 73 [.var 14]) (.con (.bl true))]) (.list []))) [.ret (.con (.bl false))] [], .ite (.cmp .eq (.lc (.con (.int 1)) [14] (.name 14) (.var 13) [.not (.call 4 [.var 14, .var 10])]) (.list [])) [.append 11 (.var 12)] []],
  .ite (.or (.cmp .ne (.call 60 [.var 9]) (.var 11)) (.and (.cmp .ne (.var 3) (.tup [])) (.cmp .ne (.cmp .ne (.var 11) (.list [])) (.call 49 [.var 9])))) [.ret (.con (.bl false))] [],
  .ret (.call 30 [.call 49 [.tup [.var 5, .var 2, .tup [], .var 3]], .cmp .le (.var 5) (.call 80 [.var 2, .var 3])])]⟩
-- k06 k09
def d_less_from : Def := ⟨4, 11, [
  .ite (.cmp .eq (.idx (.var 1) (.con (.int 0))) (.con (.str [101, 110, 100]))) [.ret (.var 1)] [],
  .asg (.tup [.name 4, .name 5]) (.var 0),
  .asg (.name 2) (.bin .add (.var 2) (.tup [.idx (.var 1) (.con (.int 1))])),
  .asg (.name 6) (.bin .sub (.bi .len [.var 2]) (.con (.int 1))),
  .new 7 (.list []),
  .for_ (.name 8) (.rng [.bin .add (.bi .len [.call 52 [.var 5, .var 2]]) (.con (.int 1))]) [.new 9 (.bi .dict [.var 3]), .setix 9 (.bin .sub (.var 6) (.var 5)) (.var 8), .asg (.name 10) (.ite (.cmp .ne (.call 52 [.var 4, .var 2]) (.tup [])) (.idx (.var 9) (.bin .sub (.var 6) (.var 4))) (.con (.int 0))), .frz 9, .append 7 (.call 77 [.var 0, .idx (.idx (.var 1) (.con (.int 2))) (.var 10), .var 2, .var 9])],
  .ret (.tup [.con (.str [97, 115, 107]), .idx (.var 1) (.con (.int 1)), .bi .tuple [.var 7]])]⟩
-- k06 k09
def d_for_less : Def := ⟨3, 3, [
  .expr (.call 88 [.var 0, .var 1]),
  .ite (.not (.call 74 [.var 2, .con (.int 0), .idx (.var 0) (.con (.int 1))])) [.raise_ 5] [],
  .ret (.call 77 [.tup [.idx (.var 0) (.con (.int 1)), .var 2], .var 1, .tup [], .dict0])]⟩
-- k06
def d_law_k06 : Def := ⟨1, 11, [
  .loc 1 (.list []),
  .asg (.tup [.name 2, .name 3, .name 4]) (.call 33 [.var 0, .var 1, .con (.int 5)]),
  .asg (.name 5) (.tup [.bi .min [.var 2, .con (.int 16)], .var 3, .var 4]),
  .asg (.name 6) (.call 34 [.var 0, .var 1, .var 5, .tup [], .tup [.con (.int 0), .idx (.var 5) (.con (.int 0))]]),
  .ite (.and (.cmp .le (.idx (.var 5) (.con (.int 0))) (.call 80 [.var 3, .var 4])) (.cmp .eq (.call 8 [.var 0, .var 1, .con (.int 2)]) (.con (.int 0)))) [.asg (.name 6) (.call 47 [.var 5])] [],
  .asg (.name 7) (.call 8 [.var 0, .var 1, .bin .add (.var 3) (.con (.int 1))]),
  .par [(8, false), (9, false)] [.tup [.idx (.var 5) (.con (.int 0)), .var 7, .var 4], .call 57 [.var 5, .var 6, .var 7]],
  .ite (.or (.cmp .isnt (.call 71 [.var 8, .var 9]) (.con (.bl true))) (.cmp .ne (.call 57 [.var 5, .var 6, .var 3]) (.var 6))) [.ret (.con (.bl false))] [],
  .ite (.cmp .ne (.call 95 [.var 8, .var 9]) (.call 95 [.var 5, .var 6])) [.ret (.con (.bl false))] [],
  .for_ (.name 10) (.rng [.idx (.var 5) (.con (.int 0))]) [.ite (.or (.cmp .ne (.call 111 [.var 8, .var 9, .var 10]) (.call 111 [.var 5, .var 6, .var 10])) (.cmp .ne (.call 66 [.var 8, .var 9, .var 10]) (.call 66 [.var 5, .var 6, .var 10]))) [.ret (.con (.bl false))] []],
  .ret (.con (.bl true))]⟩
-- k07 k09
def d_fewer_from : Def := ⟨4, 12, [
  .ite (.cmp .eq (.idx (.var 1) (.con (.int 0))) (.con (.str [101, 110, 100]))) [.ret (.var 1)] [],
  .asg (.tup [.name 4, .name 5]) (.var 3),
  .asg (.name 2) (.bin .add (.var 2) (.tup [.idx (.var 1) (.con (.int 1))])),
  .asg (.name 6) (.call 52 [.var 0, .var 2]),
  .par [(7, false), (8, false)] [.bi .len [.lc (.var 9) [9] (.name 9) (.var 6) [.cmp .le (.var 9) (.var 4)]], .bi .len [.lc (.var 9) [9] (.name 9) (.var 6) [.chain .lt .lt (.var 4) (.var 9) (.var 5)]]],
  .asg (.name 10) (.lc (.call 53 [.var 0, .var 11, .var 2, .var 3]) [11] (.name 11) (.slc (.idx (.var 1) (.con (.int 2))) [.var 7] [.bin .add (.bin .add (.var 7) (.var 8)) (.con (.int 1))]) []),
  .ret (.tup [.con (.str [97, 115, 107]), .bi .tuple [.lc (.bin .sub (.var 9) (.var 4)) [9] (.name 9) (.idx (.var 1) (.con (.int 1))) [.chain .lt .lt (.var 4) (.var 9) (.var 5)]], .bi .tuple [.var 10]])]⟩
-- k07 k09
def d_for_fewer : Def := ⟨4, 4, [
  .expr (.call 88 [.var 0, .var 1]),
  .ite (.or (.not (.call 74 [.var 2, .con (.int 0), .bin .sub (.idx (.var 0) (.con (.int 0))) (.con (.int 1))])) (.not (.call 74 [.var 3, .bin .add (.var 2) (.con (.int 1)), .idx (.var 0) (.con (.int 0))]))) [.raise_ 6] [],
  .ret (.call 53 [.idx (.var 0) (.con (.int 1)), .var 1, .tup [], .tup [.var 2, .var 3]])]⟩
-- k07
def d_law_k07 : Def := ⟨1, 15, [
  .loc 1 (.list []),
  .asg (.name 2) (.call 33 [.var 0, .var 1, .con (.int 6)]),
  .asg (.name 3) (.call 34 [.var 0, .var 1, .var 2, .tup [], .tup [.con (.int 0), .idx (.var 2) (.con (.int 0))]]),
  .ite (.and (.cmp .le (.idx (.var 2) (.con (.int 0))) (.call 80 [.idx (.var 2) (.con (.int 1)), .idx (.var 2) (.con (.int 2))])) (.cmp .eq (.call 8 [.var 0, .var 1, .con (.int 2)]) (.con (.int 0)))) [.asg (.name 3) (.call 47 [.var 2])] [],
  .asg (.name 4) (.call 8 [.var 0, .var 1, .idx (.var 2) (.con (.int 0))]),
  .asg (.name 5) (.bin .add (.bin .add (.var 4) (.con (.int 1))) (.call 8 [.var 0, .var 1, .bin .sub (.idx (.var 2) (.con (.int 0))) (.var 4)])),
  .par [(6, false), (7, false)] [.bin .add (.tup [.bin .sub (.var 5) (.var 4)]) (.slc (.var 2) [.con (.int 1)] []), .call 56 [.var 2, .var 3, .var 4, .var 5]],
  .ite (.or (.cmp .isnt (.call 71 [.var 6, .var 7]) (.con (.bl true))) (.cmp .ne (.call 56 [.var 2, .var 3, .con (.int 0), .idx (.var 2) (.con (.int 0))]) (.var 3))) [.ret (.con (.bl false))] [],
  .new 8 (.list []),
  .for_ (.name 9) (.call 95 [.var 2, .var 3]) [.asg (.name 10) (.lc (.bin .sub (.var 11) (.var 4)) [11] (.name 11) (.var 9) [.chain .le .lt (.var 4) (.var 11) (.var 5)]), .ite (.cmp .ne (.var 10) (.list [])) [.append 8 (.var 10)] []],
  .ite (.or (.cmp .ne (.call 95 [.var 6, .var 7]) (.bi .sorted [.var 8])) (.and (.call 55 [.var 2, .var 3]) (.not (.call 55 [.var 6, .var 7])))) [.ret (.con (.bl false))] [],
  .for_ (.name 11) (.rng [.var 4, .var 5]) [.new 12 (.list []), .for_ (.name 13) (.call 111 [.var 2, .var 3, .var 11]) [.append 12 (.bi .tuple [.lc (.bin .sub (.var 14) (.var 4)) [14] (.name 14) (.var 13) [.chain .lt .lt (.var 4) (.var 14) (.var 5)]])], .ite (.cmp .ne (.call 111 [.var 6, .var 7, .bin .sub (.var 11) (.var 4)]) (.bi .tuple [.var 12])) [.ret (.con (.bl false))] []],
  .ret (.con (.bl true))]⟩
-- k08 k09
def d_turned_from : Def := ⟨2, 5, [
  .ite (.cmp .eq (.idx (.var 1) (.con (.int 0))) (.con (.str [101, 110, 100]))) [.ret (.var 1)] [],
  .asg (.name 2) (.bi .tuple [.lc (.bin .sub (.var 0) (.var 3)) [3] (.name 3) (.rev (.idx (.var 1) (.con (.int 1)))) []]),
  .ret (.tup [.con (.str [97, 115, 107]), .var 2, .bi .tuple [.lc (.call 110 [.var 0, .var 4]) [4] (.name 4) (.rev (.idx (.var 1) (.con (.int 2)))) []]])]⟩
-- k08 k09
def d_turned : Def := ⟨2, 2, [
  .expr (.call 88 [.var 0, .var 1]),
  .ret (.call 110 [.idx (.var 0) (.con (.int 0)), .var 1])]⟩
-- k08
def d_law_k08 : Def := ⟨1, 17, [
  .loc 1 (.list []),
  .asg (.name 2) (.call 33 [.var 0, .var 1, .con (.int 7)]),
  .asg (.name 3) (.call 34 [.var 0, .var 1, .var 2, .tup [], .tup [.con (.int 0), .idx (.var 2) (.con (.int 0))]]),
  .par [(4, false), (5, false)] [.call 109 [.var 2, .var 3], .idx (.var 2) (.con (.int 0))],
  .ite (.or (.cmp .isnt (.call 71 [.var 2, .var 4]) (.con (.bl true))) (.cmp .ne (.call 109 [.var 2, .var 4]) (.var 3))) [.ret (.con (.bl false))] [],
  .asg (.name 6) (.bi .sorted [.lc (.bi .sorted [.lc (.bin .sub (.bin .sub (.var 5) (.con (.int 1))) (.var 8)) [8] (.name 8) (.var 7) []]) [7] (.name 7) (.call 95 [.var 2, .var 3]) []]),
  .ite (.cmp .ne (.call 95 [.var 2, .var 4]) (.var 6)) [.ret (.con (.bl false))] [],
  .for_ (.name 9) (.rng [.con (.int 4)]) [.asg (.name 8) (.call 8 [.var 0, .var 1, .var 5]), .asg (.name 10) (.lc (.bi .tuple [.bi .sorted [.lc (.bin .sub (.var 5) (.var 16)) [16] (.name 16) (.var 13) []]]) [13] (.name 13) (.call 111 [.var 2, .var 3, .var 8]) []), .ite (.cmp .ne (.call 111 [.var 2, .var 4, .bin .sub (.bin .sub (.var 5) (.con (.int 1))) (.var 8)]) (.bi .tuple [.var 10])) [.ret (.con (.bl false))] [], .asg (.name 11) (.lc (.bi .len [.var 13]) [13] (.name 13) (.var 10) [.cmp .ne (.var 13) (.tup [])]), .asg (.name 12) (.lc (.bin .sub (.var 14) (.var 15)) [14, 15] (.tup [.name 14, .name 15]) (.zip [.var 11, .call 66 [.var 2, .var 3, .var 8]]) []), .ite (.cmp .ne (.call 66 [.var 2, .var 4, .bin .sub (.bin .sub (.var 5) (.con (.int 1))) (.var 8)]) (.bi .tuple [.var 12])) [.ret (.con (.bl false))] []],
  .ret (.con (.bl true))]⟩
-- k09 k11 k13 k14 k16
def d__wall : Def := ⟨1, 1, [
  .while_ (.con (.bl true)) [.pass]]⟩
-- k09 k11 k12 k13 k14 k16
def d_Play___init__ : Def := ⟨3, 3, [
  .expr (.call 86 [.var 1]),
  .expr (.call 90 [.var 1, .var 2]),
  .setfld 0 0 (.var 1),
  .setfld 0 1 (.var 2),
  .setfld 0 2 (.mk (.list [])),
  .setfld 0 3 (.con (.int 0))]⟩
-- k09 k11 k12 k13 k14 k16
def d_Play_ask : Def := ⟨2, 6, [
  .asg (.tup [.name 2, .name 3, .name 4]) (.fld (.var 0) 0),
  .ite (.cmp .eq (.bi .len [.fld (.var 0) 2]) (.bi .len [.var 4])) [.raise_ 10] [],
  .ite (.not (.call 44 [.var 2, .idx (.var 4) (.bi .len [.fld (.var 0) 2]), .var 1])) [.raise_ 9] [],
  .appendAt (.fld (.var 0) 2) (.var 1),
  .asg (.name 5) (.call 52 [.var 3, .bi .tuple [.fld (.var 0) 2]]),
  .ret (.ite (.cmp .ne (.var 5) (.tup [])) (.call 40 [.var 5, .fld (.var 0) 1]) (.con (.non)))]⟩
-- k09 k11 k12 k13 k14 k16
def d_Play_due : Def := ⟨1, 1, [
  .ite (.cmp .eq (.bi .len [.fld (.var 0) 2]) (.bi .len [.idx (.fld (.var 0) 0) (.con (.int 2))])) [.ret (.bi .list [.fld (.var 0) 2])] [],
  .ret (.slc (.fld (.var 0) 2) [] [.bi .max [.con (.int 0), .bin .sub (.bi .len [.fld (.var 0) 2]) (.idx (.fld (.var 0) 0) (.con (.int 1)))]])]⟩
-- k09 k11 k12 k13 k14 k16
def d_Play_heard : Def := ⟨1, 1, [
  .ret (.bi .list [.call 41 [.meth 0 122 (.var 0) [], .fld (.var 0) 1]])]⟩
-- k09 k11 k12 k13 k14 k16
def d_Play_asked : Def := ⟨1, 1, [
  .ret (.bi .list [.fld (.var 0) 2])]⟩
-- k09 k11 k12 k14 k16
def d_Play_waiting : Def := ⟨1, 1, [
  .ret (.slc (.fld (.var 0) 2) [.bi .len [.meth 0 122 (.var 0) []]] [])]⟩
-- k09 k16
def d_Play_possible_k09 : Def := ⟨1, 1, [
  .expr (.call 39 [.con (.int 0)])]⟩
-- k09 k11 k12 k13 k14 k16
def d_Play_back : Def := ⟨1, 1, [
  .ite (.cmp .eq (.bi .len [.fld (.var 0) 2]) (.fld (.var 0) 3)) [.raise_ 11] [],
  .ret (.pop (.fld (.var 0) 2))]⟩
-- k09 k13 k16
def d_Play_twin : Def := ⟨1, 1, [
  .expr (.call 39 [.con (.int 1)])]⟩
-- k09 k11 k12 k13 k14 k16
def d_Play___eq__ : Def := ⟨2, 2, [
  .ite (.not (.isc (.var 1) 0)) [.ret (.con (.bl false))] [],
  .ret (.and (.cmp .eq (.fld (.var 0) 0) (.fld (.var 1) 0)) (.and (.cmp .eq (.fld (.var 0) 2) (.fld (.var 1) 2)) (.cmp .eq (.meth 0 123 (.var 0) []) (.meth 0 123 (.var 1) []))))]⟩
-- k09 k11 k12 k13 k14 k16
def d_Play___len__ : Def := ⟨1, 1, [
  .ret (.bi .len [.fld (.var 0) 2])]⟩
-- k09 k11 k12 k13 k14 k16
def d_Play___str__ : Def := ⟨1, 2, [
  .ret (.bi .join [.con (.str []), .lcL (.bi .str [.bi .len [.var 1]]) [1] (.name 1) (.fld (.var 0) 2) []])]⟩
-- k09 k10
def d_game_line : Def := ⟨1, 3, [
  .asg (.name 1) (.ite (.cmp .ne (.idx (.var 0) (.con (.int 2))) (.tup [])) (.bi .join [.con (.str []), .lc (.bi .str [.var 2]) [2] (.name 2) (.idx (.var 0) (.con (.int 2))) []]) (.con (.str [110, 111, 110, 101]))),
  .ret (.bi .join [.con (.str [32]), .list [.con (.str [116, 104, 105, 110, 103, 115]), .bi .str [.idx (.var 0) (.con (.int 0))], .con (.str [108, 97, 116, 101]), .bi .str [.idx (.var 0) (.con (.int 1))], .con (.str [98, 101, 97, 116, 115]), .var 1]])]⟩
-- k09 k10
def d_game_text : Def := ⟨1, 1, [
  .expr (.call 86 [.var 0]),
  .ret (.call 58 [.var 0])]⟩
-- k09 k10
def d_plan_lines : Def := ⟨3, 9, [
  .ite (.cmp .eq (.idx (.var 1) (.con (.int 0))) (.con (.str [101, 110, 100]))) [.ret (.list [.con (.str [101, 110, 100])])] [],
  .asg (.name 3) (.ite (.cmp .ne (.idx (.var 1) (.con (.int 1))) (.tup [])) (.lc (.bi .str [.var 4]) [4] (.name 4) (.idx (.var 1) (.con (.int 1))) []) (.list [.con (.str [110, 111, 110, 101])])),
  .par [(5, true), (2, false)] [.list [.bi .join [.con (.str [32]), .bin .add (.list [.con (.str [97, 115, 107])]) (.var 3)]], .bin .add (.var 2) (.tup [.idx (.var 1) (.con (.int 1))])],
  .ite (.cmp .eq (.call 52 [.var 0, .var 2]) (.tup [])) [.ret (.bin .add (.var 5) (.call 101 [.var 0, .idx (.idx (.var 1) (.con (.int 2))) (.con (.int 0)), .var 2]))] [],
  .for_ (.tup [.name 6, .name 7]) (.enm [.idx (.var 1) (.con (.int 2))]) [.append 5 (.bin .add (.con (.str [105, 102, 32])) (.bi .str [.var 6])), .extend 5 (.lc (.bin .add (.con (.str [32])) (.var 8)) [8] (.name 8) (.call 101 [.var 0, .var 7, .var 2]) [])],
  .frz 5,
  .ret (.var 5)]⟩
-- k09 k10
def d_plan_in_text : Def := ⟨2, 2, [
  .ret (.bi .join [.con (.str [10]), .call 101 [.idx (.var 0) (.con (.int 1)), .var 1, .tup []]])]⟩
-- k09 k10
def d_plan_text : Def := ⟨2, 2, [
  .expr (.call 88 [.var 0, .var 1]),
  .ret (.call 100 [.var 0, .var 1])]⟩
-- k09 k10
def d_number_in : Def := ⟨1, 2, [
  .ite (.or (.cmp .eq (.var 0) (.con (.str []))) (.or (.cmp .gt (.bi .len [.var 0]) (.con (.int 2))) (.or (.not (.bi .all [.lc (.cmp .inn (.var 1) (.glob [] (.str [48, 49, 50, 51, 52, 53, 54, 55, 56, 57]))) [1] (.name 1) (.var 0) []])) (.cmp .ne (.bi .str [.bi .int [.var 0]]) (.var 0))))) [.ret (.con (.non))] [],
  .ret (.bi .int [.var 0])]⟩
-- k09 k10
def d_within : Def := ⟨1, 3, [
  .new 1 (.list []),
  .for_ (.name 2) (.var 0) [.ite (.cmp .ne (.slc (.var 2) [] [.con (.int 1)]) (.con (.str [32]))) [.frz 1, .ret (.var 1)] [], .append 1 (.slc (.var 2) [.con (.int 1)] [])],
  .frz 1,
  .ret (.var 1)]⟩
-- k09 k10
def d_cuts_in : Def := ⟨1, 3, [
  .asg (.name 1) (.bad),
  .ite (.or (.cmp .ne (.idx (.var 1) (.con (.int 0))) (.con (.str [97, 115, 107]))) (.cmp .lt (.bi .len [.var 1]) (.con (.int 2)))) [.ret (.con (.non))] [],
  .ret (.ite (.cmp .eq (.slc (.var 1) [.con (.int 1)] []) (.list [.con (.str [110, 111, 110, 101])])) (.tup []) (.bi .tuple [.lc (.call 93 [.var 2]) [2] (.name 2) (.slc (.var 1) [.con (.int 1)] []) []]))]⟩
-- k09 k10
def d_plans_in : Def := ⟨3, 5, [
  .new 3 (.list []),
  .while_ (.cmp .ne (.var 1) (.list [])) [.ite (.cmp .ne (.idx (.var 1) (.con (.int 0))) (.bin .add (.con (.str [105, 102, 32])) (.bi .str [.bi .len [.var 3]]))) [.ret (.con (.non))] [], .asg (.name 4) (.call 114 [.slc (.var 1) [.con (.int 1)] []]), .append 3 (.call 99 [.var 0, .var 4, .var 2]), .asg (.name 1) (.slc (.var 1) [.bin .add (.con (.int 1)) (.bi .len [.var 4])] [])],
  .ret (.bi .tuple [.var 3])]⟩
-- k09 k10
def d_plan_in : Def := ⟨3, 4, [
  .ite (.cmp .eq (.var 1) (.list [.con (.str [101, 110, 100])])) [.ret (.tup [.con (.str [101, 110, 100])])] [],
  .asg (.name 3) (.ite (.cmp .ne (.var 1) (.list [])) (.call 51 [.idx (.var 1) (.con (.int 0))]) (.con (.non))),
  .ite (.or (.cmp .is (.var 3) (.con (.non))) (.cmp .gt (.bi .len [.var 2]) (.con (.int 8)))) [.ret (.con (.non))] [],
  .asg (.name 2) (.bin .add (.var 2) (.tup [.var 3])),
  .ite (.cmp .eq (.call 52 [.var 0, .var 2]) (.tup [])) [.ret (.tup [.con (.str [97, 115, 107]), .var 3, .tup [.call 99 [.var 0, .slc (.var 1) [.con (.int 1)] [], .var 2]]])] [],
  .ret (.tup [.con (.str [97, 115, 107]), .var 3, .call 103 [.var 0, .slc (.var 1) [.con (.int 1)] [], .var 2]])]⟩
-- k09 k10
def d_read_plan : Def := ⟨2, 3, [
  .expr (.call 86 [.var 0]),
  .asg (.name 2) (.ite (.isa (.var 1) .str) (.call 99 [.idx (.var 0) (.con (.int 1)), .bad, .tup []]) (.con (.non))),
  .ite (.or (.not (.call 63 [.var 0, .var 2])) (.cmp .ne (.call 100 [.var 0, .var 2]) (.var 1))) [.raise_ 8] [],
  .ret (.var 2)]⟩
-- k09
def d__law_ask : Def := ⟨5, 7, [
  .tryw 6 [.ite (.cmp .lt (.var 0) (.con (.int 2))) [.ret (.calld (.idx (.list [.glob [] (.fn 47), .glob [] (.fn 59)]) (.var 0)) [.var 1])] [], .ite (.cmp .lt (.var 0) (.con (.int 9))) [.asg (.name 5) (.list [.glob [] (.fn 71), .glob [] (.fn 95), .glob [] (.fn 55), .glob [] (.fn 92), .glob [] (.fn 109), .glob [] (.fn 102), .glob [] (.fn 105)]), .ret (.calld (.idx (.var 5) (.bin .sub (.var 0) (.con (.int 2)))) [.var 1, .var 2])] [], .ite (.cmp .lt (.var 0) (.con (.int 13))) [.ret (.calld (.idx (.list [.glob [] (.fn 111), .glob [] (.fn 66), .glob [] (.fn 67), .glob [] (.fn 57)]) (.bin .sub (.var 0) (.con (.int 9)))) [.var 1, .var 2, .var 3])] [], .ite (.cmp .lt (.var 0) (.con (.int 15))) [.ret (.ite (.cmp .eq (.var 0) (.con (.int 13))) (.call 56 [.var 1, .var 2, .var 3, .var 4]) (.make 0 120 [.var 1, .var 2]))] [], .ite (.cmp .lt (.var 0) (.con (.int 18))) [.ret (.ite (.cmp .lt (.var 0) (.con (.int 17))) (.calld (.idx (.list [.glob [] (.fn 49), .glob [] (.fn 60)]) (.bin .sub (.var 0) (.con (.int 15)))) [.var 1]) (.call 45 [.var 1, .var 2]))] [], .ret (.ite (.cmp .lt (.var 0) (.con (.int 20))) (.calld (.idx (.list [.glob [] (.fn 80), .glob [] (.fn 115)]) (.bin .sub (.var 0) (.con (.int 18)))) [.var 1, .var 2]) (.call 54 [.var 1, .var 2, .var 3]))]]⟩
-- k09
def d__law_numbers_refused : Def := ⟨0, 2, [
  .for_ (.name 0) (.list [.con (.non), .neg (.con (.int 1)), .con (.int 6), .con (.str [49]), .con (.bl true)]) [.ite (.cmp .ne (.lc (.call 1 [.var 1, .var 0, .con (.non), .con (.non), .con (.non)]) [1] (.name 1) (.tup [.con (.int 18), .con (.int 19)]) []) (.bin .mul (.list [.tup [.con (.str [114, 101, 102, 117, 115, 101, 100]), .con (.int 5)]]) (.con (.int 2)))) [.ret (.con (.bl false))] [], .ite (.cmp .ne (.call 1 [.con (.int 20), .con (.int 5), .var 0, .con (.non), .con (.non)]) (.tup [.con (.str [114, 101, 102, 117, 115, 101, 100]), .con (.int 5)])) [.ret (.con (.bl false))] []],
  .for_ (.name 0) (.list [.con (.non), .con (.int 3), .list [.con (.int 1)], .tup [.con (.int 4)], .tup [.neg (.con (.int 1))], .tup [.con (.bl true)], .bin .mul (.tup [.con (.int 1)]) (.con (.int 9)), .tup [.con (.str [49])], .tup [.con (.non)]]) [.ite (.cmp .ne (.lc (.call 1 [.var 1, .con (.int 1), .var 0, .con (.non), .con (.non)]) [1] (.name 1) (.tup [.con (.int 18), .con (.int 19)]) []) (.bin .mul (.list [.tup [.con (.str [114, 101, 102, 117, 115, 101, 100]), .con (.int 7)]]) (.con (.int 2)))) [.ret (.con (.bl false))] []],
  .for_ (.name 0) (.list [.con (.non), .con (.int 0), .con (.int 4), .con (.str [49]), .con (.bl true)]) [.ite (.cmp .ne (.call 1 [.con (.int 20), .con (.int 5), .con (.int 1), .var 0, .con (.non)]) (.tup [.con (.str [114, 101, 102, 117, 115, 101, 100]), .con (.int 9)])) [.ret (.con (.bl false))] []],
  .for_ (.name 0) (.list [.con (.non), .con (.int 0), .con (.int 65), .con (.str [51]), .con (.bl true)]) [.ite (.cmp .ne (.call 1 [.con (.int 20), .var 0, .con (.non), .con (.non), .con (.non)]) (.tup [.con (.str [114, 101, 102, 117, 115, 101, 100]), .con (.int 3)])) [.ret (.con (.bl false))] []],
  .ret (.cmp .eq (.call 1 [.con (.int 0), .tup [.con (.int 6), .con (.int 1), .tup [.con (.int 1), .con (.int 1), .con (.int 1)]], .con (.non), .con (.non), .con (.non)]) (.tup [.con (.str [114, 101, 102, 117, 115, 101, 100]), .con (.int 3)]))]⟩
-- k09
def d__law_states_refused : Def := ⟨0, 3, [
  .new 0 (.list [.con (.non), .tup [], .tup [.con (.int 5), .con (.int 1), .tup []], .list [.con (.int 5), .con (.int 1), .tup [], .tup []], .tup [.con (.int 0), .con (.int 1), .tup [], .tup []], .tup [.con (.int 9), .con (.int 1), .tup [], .tup []], .tup [.con (.int 5), .con (.int 3), .tup [], .tup []]]),
  .extend 0 (.list [.tup [.con (.int 5), .con (.int 1), .tup [.tup [.con (.int 1)], .tup [.con (.int 2)]], .tup []], .tup [.con (.int 5), .con (.int 1), .tup [.con (.int 1)], .tup []], .tup [.con (.int 5), .con (.int 1), .tup [.tup [.con (.int 2), .con (.int 2)]], .tup []], .tup [.con (.int 8), .con (.int 1), .tup [.tup [.con (.int 1), .con (.int 2), .con (.int 3), .con (.int 4)]], .tup []]]),
  .extend 0 (.list [.tup [.con (.int 5), .con (.int 1), .tup [.tup [.con (.int 5)]], .tup []], .tup [.con (.int 5), .con (.int 1), .tup [.tup [.con (.bl true)]], .tup []], .tup [.con (.int 5), .con (.int 1), .tup [], .bin .mul (.tup [.con (.int 1)]) (.con (.int 5))], .tup [.con (.int 5), .con (.int 1), .tup [], .tup [.con (.int 4)]], .tup [.con (.int 5), .con (.int 1), .list [.tup []], .tup []]]),
  .for_ (.name 1) (.bin .add (.var 0) (.list [.tup [.con (.int 5), .con (.int 1), .tup [], .con (.int 3)], .tup [.con (.bl true), .con (.int 1), .tup [], .tup []]])) [.ite (.cmp .isnt (.call 73 [.var 1]) (.con (.bl false))) [.ret (.con (.bl false))] [], .ite (.cmp .ne (.lc (.call 1 [.var 2, .var 1, .con (.non), .con (.non), .con (.non)]) [2] (.name 2) (.tup [.con (.int 15), .con (.int 16), .con (.int 17)]) []) (.bin .mul (.list [.tup [.con (.str [114, 101, 102, 117, 115, 101, 100]), .con (.int 4)]]) (.con (.int 3)))) [.ret (.con (.bl false))] []],
  .ite (.cmp .ne (.call 1 [.con (.int 17), .tup [.con (.int 5), .con (.int 1), .tup [.tup [.con (.int 2)]], .tup []], .con (.non), .con (.non), .con (.non)]) (.tup [.con (.str [114, 101, 102, 117, 115, 101, 100]), .con (.int 10)])) [.ret (.con (.bl false))] [],
  .ite (.cmp .ne (.call 1 [.con (.int 16), .tup [.con (.int 5), .con (.int 1), .tup [], .tup []], .con (.non), .con (.non), .con (.non)]) (.list [])) [.ret (.con (.bl false))] [],
  .for_ (.name 1) (.list [.con (.non), .con (.int 1), .tup [.con (.int 0)], .tup [.con (.int 5)], .tup [.con (.str [49])], .tup [.con (.bl true)], .list [.con (.int 1)], .tup [.con (.int 2), .con (.int 1)], .tup [.con (.int 1), .con (.int 1)], .tup [.con (.int 1), .con (.int 2), .con (.int 3)]]) [.ite (.cmp .ne (.call 1 [.con (.int 17), .tup [.con (.int 5), .con (.int 1), .tup [.tup [.con (.int 2)]], .tup [.con (.int 2)]], .var 1, .con (.non), .con (.non)]) (.tup [.con (.str [114, 101, 102, 117, 115, 101, 100]), .con (.int 9)])) [.ret (.con (.bl false))] []],
  .ret (.cmp .is (.call 73 [.tup [.con (.int 8), .con (.int 2), .tup [.tup [.con (.int 1), .con (.int 4), .con (.int 7)], .tup []], .bin .mul (.tup [.con (.int 3)]) (.con (.int 4))]]) (.con (.bl true)))]⟩
-- k09
def d__law_no_plans : Def := ⟨2, 3, [
  .new 2 (.list [.con (.non), .tup [], .var 0, .list [.con (.str [97, 115, 107]), .tup [.con (.int 2)], .tup [.var 1]], .tup [.con (.str [97, 115, 107]), .tup [.con (.int 5)], .tup [.var 1]], .tup [.con (.str [97, 115, 107]), .tup [.con (.int 0)], .tup [.var 1]], .tup [.con (.str [97, 115, 107]), .tup [.con (.int 2)]]]),
  .extend 2 (.list [.tup [.con (.str [97, 115, 107]), .tup [.con (.bl true)], .tup [.var 1]], .tup [.con (.str [97, 115, 107]), .tup [.con (.int 2)], .var 1], .tup [.con (.str [97, 115, 107]), .tup [.con (.int 2)], .tup [.var 1, .var 1]], .tup [.con (.str [115, 97, 121]), .tup [.con (.int 2)], .tup [.var 1]]]),
  .append 2 (.tup [.con (.str [97, 115, 107]), .con (.int 2), .tup [.var 1]]),
  .extend 2 (.list [.tup [.con (.str [97, 115, 107]), .tup [.con (.int 2), .con (.int 1)], .tup [.var 1]], .tup [.con (.str [97, 115, 107]), .tup [.con (.int 1), .con (.int 2), .con (.int 3)], .tup [.var 1]], .tup [.con (.str [97, 115, 107]), .tup [], .tup [.var 1]], .tup [.con (.str [97, 115, 107]), .tup [.con (.int 1), .con (.int 2)], .tup [.var 1]]]),
  .append 2 (.tup [.con (.str [97, 115, 107]), .tup [.con (.int 2)], .tup [.tup [.con (.str [97, 115, 107]), .tup [.con (.int 3)], .tup [.tup [.con (.str [97, 115, 107]), .tup [.con (.int 1)], .tup [.var 0, .var 0]], .idx (.idx (.var 1) (.con (.int 2))) (.con (.int 1))]]]]),
  .frz 2,
  .ret (.var 2)]⟩
-- k09
def d_law_k09 : Def := ⟨1, 14, [
  .loc 1 (.list []),
  .par [(2, false), (3, false)] [.tup [.con (.int 5), .con (.int 1), .tup [.con (.int 2), .con (.int 1), .con (.int 0)]], .tup [.con (.str [101, 110, 100])]],
  .asg (.name 4) (.tup [.con (.str [97, 115, 107]), .tup [.con (.int 3)], .tup [.tup [.con (.str [97, 115, 107]), .tup [], .tup [.var 3, .var 3]], .tup [.con (.str [97, 115, 107]), .tup [], .tup [.var 3, .var 3]]]]),
  .asg (.name 5) (.tup [.con (.str [97, 115, 107]), .tup [.con (.int 2)], .tup [.var 4]]),
  .ite (.or (.cmp .isnt (.call 69 [.var 2]) (.con (.bl true))) (.cmp .isnt (.call 71 [.var 2, .var 5]) (.con (.bl true)))) [.ret (.con (.bl false))] [],
  .new 6 (.list [.con (.non), .tup [], .tup [.con (.int 5), .con (.int 1)], .list [.con (.int 5), .con (.int 1), .tup []], .tup [.con (.int 0), .con (.int 1), .tup []], .tup [.con (.int 65), .con (.int 1), .tup []], .tup [.con (.int 5), .neg (.con (.int 1)), .tup []], .tup [.con (.int 5), .con (.int 6), .tup []], .tup [.con (.int 5), .con (.int 1), .list [.con (.int 1)]], .tup [.con (.int 5), .con (.int 1), .tup [.con (.int 4)]]]),
  .extend 6 (.list [.tup [.con (.int 5), .con (.bl true), .tup []], .tup [.con (.int 5), .con (.int 1), .bin .mul (.tup [.con (.int 1)]) (.con (.int 9))], .tup [.con (.str [53]), .con (.int 1), .tup []], .tup [.con (.int 5), .con (.int 1), .tup [.con (.bl true)]], .tup [.con (.int 5), .con (.int 1), .con (.int 3)], .tup [.con (.int 5), .con (.int 1), .tup [], .con (.int 1)]]),
  .frz 6,
  .asg (.name 7) (.call 25 [.var 0, .var 1, .var 6]),
  .asg (.name 8) (.lc (.call 1 [.var 9, .var 7, .con (.non), .con (.non), .con (.non)]) [9] (.name 9) (.rng [.con (.int 15)]) []),
  .ite (.or (.cmp .isnt (.call 69 [.var 7]) (.con (.bl false))) (.cmp .ne (.var 8) (.bin .mul (.list [.tup [.con (.str [114, 101, 102, 117, 115, 101, 100]), .con (.int 0)]]) (.con (.int 15))))) [.ret (.con (.bl false))] [],
  .asg (.name 7) (.call 25 [.var 0, .var 1, .call 19 [.var 3, .var 4]]),
  .ite (.cmp .isnt (.call 71 [.var 2, .var 7]) (.con (.bl false))) [.ret (.con (.bl false))] [],
  .asg (.name 8) (.lc (.call 1 [.var 9, .var 2, .var 7, .con (.non), .con (.non)]) [9] (.name 9) (.tup [.con (.int 3), .con (.int 4), .con (.int 5), .con (.int 6), .con (.int 7), .con (.int 9), .con (.int 10), .con (.int 11), .con (.int 12), .con (.int 13)]) []),
  .ite (.cmp .ne (.var 8) (.bin .mul (.list [.tup [.con (.str [114, 101, 102, 117, 115, 101, 100]), .con (.int 1)]]) (.con (.int 10)))) [.ret (.con (.bl false))] [],
  .for_ (.name 10) (.list [.con (.non), .neg (.con (.int 1)), .con (.int 5), .con (.str [48]), .con (.bl true)]) [.ite (.cmp .ne (.lc (.call 1 [.var 9, .var 2, .var 5, .var 10, .con (.non)]) [9] (.name 9) (.tup [.con (.int 9), .con (.int 10), .con (.int 11)]) []) (.bin .mul (.list [.tup [.con (.str [114, 101, 102, 117, 115, 101, 100]), .con (.int 2)]]) (.con (.int 3)))) [.ret (.con (.bl false))] [], .ite (.cmp .ne (.call 1 [.con (.int 14), .var 2, .var 10, .con (.non), .con (.non)]) (.tup [.con (.str [114, 101, 102, 117, 115, 101, 100]), .con (.int 2)])) [.ret (.con (.bl false))] [], .ite (.cmp .ne (.call 1 [.con (.int 12), .var 2, .var 5, .ite (.cmp .ne (.var 10) (.con (.int 5))) (.var 10) (.con (.int 2)), .con (.non)]) (.tup [.con (.str [114, 101, 102, 117, 115, 101, 100]), .con (.int 5)])) [.ret (.con (.bl false))] []],
  .asg (.name 11) (.list [.tup [.con (.non), .con (.int 3)], .tup [.con (.int 0), .con (.int 0)], .tup [.con (.int 2), .con (.int 1)], .tup [.neg (.con (.int 1)), .con (.int 3)], .tup [.con (.int 0), .con (.int 6)], .tup [.con (.int 5), .con (.int 6)], .tup [.con (.bl true), .con (.int 3)], .tup [.con (.int 0), .con (.str [51])]]),
  .ite (.cmp .ne (.lc (.call 1 [.con (.int 13), .var 2, .var 5, .var 12, .var 13]) [12, 13] (.tup [.name 12, .name 13]) (.var 11) []) (.bin .mul (.list [.tup [.con (.str [114, 101, 102, 117, 115, 101, 100]), .con (.int 6)]]) (.con (.int 8)))) [.ret (.con (.bl false))] [],
  .ret (.and (.call 21 []) (.call 35 []))]⟩
-- k10
def d_read_game : Def := ⟨1, 5, [
  .asg (.name 1) (.ite (.isa (.var 0) .str) (.bad) (.list [])),
  .ite (.or (.cmp .ne (.bi .len [.var 1]) (.con (.int 6))) (.and (.cmp .ne (.idx (.var 1) (.con (.int 5))) (.con (.str [110, 111, 110, 101]))) (.not (.bi .all [.lc (.cmp .inn (.var 2) (.con (.str [48, 49, 50, 51]))) [2] (.name 2) (.idx (.var 1) (.con (.int 5))) []])))) [.raise_ 8] [],
  .asg (.name 3) (.ite (.cmp .ne (.idx (.var 1) (.con (.int 5))) (.con (.str [110, 111, 110, 101]))) (.bi .tuple [.lc (.bi .int [.var 2]) [2] (.name 2) (.idx (.var 1) (.con (.int 5))) []]) (.tup [])),
  .asg (.name 4) (.tup [.call 93 [.idx (.var 1) (.con (.int 1))], .call 93 [.idx (.var 1) (.con (.int 3))], .var 3]),
  .ite (.or (.not (.call 62 [.var 4])) (.cmp .ne (.call 58 [.var 4]) (.var 0))) [.raise_ 8] [],
  .ret (.var 4)]⟩
-- k10
def d__law_ask_k10 : Def := ⟨3, 4, [
  .tryw 3 [.ret (.ite (.cmp .eq (.var 0) (.con (.int 0))) (.call 104 [.var 2]) (.call 105 [.var 1, .var 2]))]]⟩
-- k10
def d__law_lines : Def := ⟨3, 8, [
  .ite (.cmp .eq (.idx (.var 1) (.con (.int 0))) (.con (.str [101, 110, 100]))) [.ret (.list [.con (.str [101, 110, 100])])] [],
  .asg (.name 3) (.bin .add (.var 2) (.tup [.idx (.var 1) (.con (.int 1))])),
  .asg (.name 4) (.ite (.cmp .ne (.idx (.var 1) (.con (.int 1))) (.tup [])) (.list [.bin .add (.con (.str [97, 115, 107, 32])) (.bi .join [.con (.str [32]), .lc (.bi .str [.var 5]) [5] (.name 5) (.idx (.var 1) (.con (.int 1))) []])]) (.list [.con (.str [97, 115, 107, 32, 110, 111, 110, 101])])),
  .ite (.cmp .eq (.call 9 [.var 0, .var 3]) (.tup [])) [.ret (.bin .add (.var 4) (.call 14 [.var 0, .idx (.idx (.var 1) (.con (.int 2))) (.con (.int 0)), .var 3]))] [],
  .for_ (.name 6) (.rng [.bi .len [.idx (.var 1) (.con (.int 2))]]) [.append 4 (.bin .add (.con (.str [105, 102, 32])) (.bi .str [.var 6])), .extend 4 (.lc (.bin .add (.con (.str [32])) (.var 7)) [7] (.name 7) (.call 14 [.var 0, .idx (.idx (.var 1) (.con (.int 2))) (.var 6), .var 3]) [])],
  .frz 4,
  .ret (.var 4)]⟩
-- k10
def d__law_game_text : Def := ⟨1, 3, [
  .asg (.name 1) (.bi .join [.con (.str []), .lc (.bi .str [.var 2]) [2] (.name 2) (.idx (.var 0) (.con (.int 2))) []]),
  .ite (.cmp .eq (.var 1) (.con (.str []))) [.asg (.name 1) (.con (.str [110, 111, 110, 101]))] [],
  .ret (.bin .add (.bin .add (.bin .add (.bin .add (.bin .add (.con (.str [116, 104, 105, 110, 103, 115, 32])) (.bi .str [.idx (.var 0) (.con (.int 0))])) (.con (.str [32, 108, 97, 116, 101, 32]))) (.bi .str [.idx (.var 0) (.con (.int 1))])) (.con (.str [32, 98, 101, 97, 116, 115, 32]))) (.var 1))]⟩
-- k10
def d__law_number : Def := ⟨1, 2, [
  .ite (.or (.cmp .eq (.var 0) (.con (.str []))) (.or (.cmp .gt (.bi .len [.var 0]) (.con (.int 2))) (.cmp .ne (.lc (.var 1) [1] (.name 1) (.var 0) [.cmp .nin (.var 1) (.con (.str [48, 49, 50, 51, 52, 53, 54, 55, 56, 57]))]) (.list [])))) [.ret (.con (.non))] [],
  .ret (.bi .int [.var 0])]⟩
-- k10
def d__law_game_in : Def := ⟨1, 3, [
  .ite (.cmp .ne (.bi .len [.var 0]) (.con (.int 6))) [.ret (.con (.non))] [],
  .asg (.name 1) (.ite (.cmp .eq (.idx (.var 0) (.con (.int 5))) (.con (.str [110, 111, 110, 101]))) (.tup []) (.bi .tuple [.lc (.call 20 [.var 2]) [2] (.name 2) (.idx (.var 0) (.con (.int 5))) []])),
  .ret (.tup [.call 20 [.idx (.var 0) (.con (.int 1))], .call 20 [.idx (.var 0) (.con (.int 3))], .var 1])]⟩
-- k10
def d__law_parse : Def := ⟨3, 11, [
  .ite (.cmp .eq (.var 1) (.list [.con (.str [101, 110, 100])])) [.ret (.tup [.con (.str [101, 110, 100])])] [],
  .asg (.name 3) (.ite (.cmp .ne (.var 1) (.list [])) (.bad) (.list [])),
  .ite (.or (.cmp .ne (.slc (.var 3) [] [.con (.int 1)]) (.list [.con (.str [97, 115, 107])])) (.cmp .gt (.bi .len [.var 2]) (.con (.int 8)))) [.ret (.con (.non))] [],
  .asg (.name 4) (.ite (.cmp .eq (.var 3) (.list [.con (.str [97, 115, 107]), .con (.str [110, 111, 110, 101])])) (.tup []) (.bi .tuple [.lc (.call 20 [.var 5]) [5] (.name 5) (.slc (.var 3) [.con (.int 1)] []) []])),
  .par [(6, false), (7, false), (8, true)] [.bin .add (.var 2) (.tup [.var 4]), .slc (.var 1) [.con (.int 1)] [], .list []],
  .ite (.cmp .eq (.call 9 [.var 0, .var 6]) (.tup [])) [.ret (.tup [.con (.str [97, 115, 107]), .var 4, .tup [.call 23 [.var 0, .var 7, .var 6]]])] [],
  .while_ (.and (.cmp .ne (.var 7) (.list [])) (.cmp .eq (.idx (.var 7) (.con (.int 0))) (.bin .add (.con (.str [105, 102, 32])) (.bi .str [.bi .len [.var 8]])))) [.asg (.name 9) (.con (.int 1)), .while_ (.and (.cmp .lt (.var 9) (.bi .len [.var 7])) (.cmp .eq (.slc (.idx (.var 7) (.var 9)) [] [.con (.int 1)]) (.con (.str [32])))) [.asg (.name 9) (.bin .add (.var 9) (.con (.int 1)))], .append 8 (.call 23 [.var 0, .lc (.slc (.var 10) [.con (.int 1)] []) [10] (.name 10) (.slc (.var 7) [.con (.int 1)] [.var 9]) [], .var 6]), .asg (.name 7) (.slc (.var 7) [.var 9] [])],
  .ret (.ite (.cmp .eq (.var 7) (.list [])) (.tup [.con (.str [97, 115, 107]), .var 4, .bi .tuple [.var 8]]) (.con (.non)))]⟩
-- k10
def d_law_k10 : Def := ⟨1, 15, [
  .loc 1 (.list []),
  .asg (.name 2) (.call 33 [.var 0, .var 1, .con (.int 4)]),
  .asg (.name 3) (.call 34 [.var 0, .var 1, .var 2, .tup [], .tup [.con (.int 0), .idx (.var 2) (.con (.int 0))]]),
  .asg (.name 4) (.list [.call 11 [.var 2], .bi .join [.con (.str [10]), .call 14 [.idx (.var 2) (.con (.int 1)), .var 3, .tup []]]]),
  .ite (.or (.cmp .ne (.call 59 [.var 2]) (.idx (.var 4) (.con (.int 0)))) (.cmp .ne (.call 102 [.var 2, .var 3]) (.idx (.var 4) (.con (.int 1))))) [.ret (.con (.bl false))] [],
  .ite (.or (.cmp .ne (.call 1 [.con (.int 0), .var 2, .idx (.var 4) (.con (.int 0))]) (.var 2)) (.cmp .ne (.call 1 [.con (.int 1), .var 2, .idx (.var 4) (.con (.int 1))]) (.var 3))) [.ret (.con (.bl false))] [],
  .for_ (.name 5) (.rng [.con (.int 5)]) [.for_ (.tup [.name 6, .name 7]) (.enm [.var 4]) [.asg (.name 8) (.call 8 [.var 0, .var 1, .bin .add (.bi .len [.var 7]) (.con (.int 1))]), .asg (.name 9) (.call 25 [.var 0, .var 1, .list [.con (.str []), .con (.str [32]), .con (.str [48]), .con (.str [49]), .con (.str [57]), .con (.str [10]), .con (.str [101, 110, 100]), .con (.str [110, 111, 110, 101]), .con (.str [97]), .con (.str [10, 32])]]), .asg (.name 10) (.bin .add (.bin .add (.slc (.var 7) [] [.var 8]) (.var 9)) (.slc (.var 7) [.bin .add (.var 8) (.call 8 [.var 0, .var 1, .con (.int 3)])] [])), .ite (.cmp .eq (.var 6) (.con (.int 0))) [.asg (.name 11) (.call 10 [.bad]), .asg (.name 12) (.ite (.and (.call 69 [.var 11]) (.cmp .eq (.call 11 [.var 11]) (.var 10))) (.var 11) (.tup [.con (.str [114, 101, 102, 117, 115, 101, 100]), .con (.int 8)]))] [.asg (.name 11) (.call 23 [.idx (.var 2) (.con (.int 1)), .bad, .tup []]), .asg (.name 13) (.and (.call 71 [.var 2, .var 11]) (.cmp .eq (.bi .join [.con (.str [10]), .call 14 [.idx (.var 2) (.con (.int 1)), .var 11, .tup []]]) (.var 10))), .asg (.name 12) (.ite (.var 13) (.var 11) (.tup [.con (.str [114, 101, 102, 117, 115, 101, 100]), .con (.int 8)]))], .ite (.cmp .ne (.call 1 [.var 6, .var 2, .var 10]) (.var 12)) [.ret (.con (.bl false))] []]],
  .for_ (.name 14) (.list [.con (.non), .con (.int 5), .con (.str []), .list [.idx (.var 4) (.con (.int 0))], .bin .add (.idx (.var 4) (.con (.int 0))) (.con (.str [32])), .bin .add (.idx (.var 4) (.con (.int 1))) (.con (.str [10])), .bin .add (.con (.str [32])) (.idx (.var 4) (.con (.int 1)))]) [.ite (.cmp .ne (.lc (.call 1 [.var 6, .var 2, .var 14]) [6] (.name 6) (.rng [.con (.int 2)]) []) (.bin .mul (.list [.tup [.con (.str [114, 101, 102, 117, 115, 101, 100]), .con (.int 8)]]) (.con (.int 2)))) [.ret (.con (.bl false))] []],
  .ret (.cmp .eq (.call 1 [.con (.int 0), .var 2, .con (.str [116, 104, 105, 110, 103, 115, 32, 51, 32, 108, 97, 116, 101, 32, 48, 32, 98, 101, 97, 116, 115, 32, 110, 111, 110, 101])]) (.tup [.con (.int 3), .con (.int 0), .tup []]))]⟩
-- k11 k12 k13 k14
def d_Play_possible : Def := ⟨1, 3, [
  .asg (.name 1) (.tup [.con (.int 0), .idx (.fld (.var 0) 0) (.con (.int 0))]),
  .for_ (.name 2) (.meth 0 122 (.var 0) []) [.asg (.name 1) (.call 83 [.var 1, .var 2, .fld (.var 0) 1])],
  .ret (.var 1)]⟩
-- k11 k14
def d_Play_twin_k11 : Def := ⟨1, 1, [
  .expr (.call 39 [.con (.int 0)])]⟩
-- k11
def d_law_k11 : Def := ⟨1, 16, [
  .loc 1 (.list []),
  .asg (.tup [.name 2, .name 3, .name 4]) (.call 33 [.var 0, .var 1, .con (.int 8)]),
  .asg (.name 5) (.call 8 [.var 0, .var 1, .var 2]),
  .par [(6, false), (7, true)] [.make 0 120 [.tup [.var 2, .var 3, .var 4], .var 5], .list []],
  .for_ (.name 8) (.rng [.bin .add (.bi .len [.var 4]) (.con (.int 1))]) [.ite (.cmp .eq (.bi .len [.var 7]) (.bi .len [.var 4])) [.frz 7] [], .asg (.name 9) (.ite (.cmp .eq (.bi .len [.var 7]) (.bi .len [.var 4])) (.var 7) (.slc (.var 7) [] [.bi .max [.con (.int 0), .bin .sub (.bi .len [.var 7]) (.var 3)]])), .asg (.name 10) (.lc (.call 27 [.var 12, .var 5]) [12] (.name 12) (.var 9) [.cmp .ne (.var 12) (.tup [])]), .ite (.or (.cmp .ne (.meth 0 123 (.var 6) []) (.var 10)) (.or (.cmp .ne (.meth 0 124 (.var 6) []) (.var 7)) (.cmp .ne (.meth 0 125 (.var 6) []) (.slc (.var 7) [.bi .len [.var 9]] [])))) [.ret (.con (.bl false))] [], .asg (.name 11) (.lc (.var 15) [15] (.name 15) (.rng [.var 2]) [.cmp .eq (.lc (.call 27 [.var 12, .var 15]) [12] (.name 12) (.var 9) [.cmp .ne (.var 12) (.tup [])]) (.var 10)]), .ite (.or (.cmp .ne (.meth 0 126 (.var 6) []) (.tup [.idx (.var 11) (.con (.int 0)), .bin .add (.idx (.var 11) (.neg (.con (.int 1)))) (.con (.int 1))])) (.cmp .ne (.bi .len [.var 11]) (.bin .sub (.bin .add (.idx (.var 11) (.neg (.con (.int 1)))) (.con (.int 1))) (.idx (.var 11) (.con (.int 0)))))) [.ret (.con (.bl false))] [], .ite (.or (.cmp .ne (.spc 0 0 130 (.var 6) []) (.var 8)) (.cmp .ne (.spc 1 0 131 (.var 6) []) (.bi .join [.con (.str []), .lc (.bi .str [.bi .len [.var 12]]) [12] (.name 12) (.var 7) []]))) [.ret (.con (.bl false))] [], .ite (.cmp .lt (.var 8) (.bi .len [.var 4])) [.asg (.name 12) (.call 32 [.var 0, .var 1, .var 2, .idx (.var 4) (.var 8), .tup [.con (.int 0), .var 2]]), .append 7 (.var 12), .asg (.name 13) (.call 9 [.var 3, .bi .tuple [.var 7]]), .asg (.name 14) (.meth 0 121 (.var 6) [.var 12]), .ite (.cmp .ne (.var 14) (.ite (.cmp .ne (.var 13) (.tup [])) (.call 27 [.var 13, .var 5]) (.con (.non)))) [.ret (.con (.bl false))] []] []],
  .ret (.con (.bl true))]⟩
-- k12
def d_Play_twin_k12 : Def := ⟨1, 2, [
  .asg (.name 1) (.make 0 120 [.fld (.var 0) 0, .fld (.var 0) 1]),
  .setfld 1 2 (.mk (.bi .list [.fld (.var 0) 2])),
  .setfld 1 3 (.bi .len [.fld (.var 0) 2]),
  .ret (.var 1)]⟩
-- k12
def d__law_look : Def := ⟨1, 1, [
  .ret (.tup [.meth 0 123 (.var 0) [], .meth 0 124 (.var 0) [], .meth 0 125 (.var 0) [], .meth 0 126 (.var 0) [], .spc 0 0 130 (.var 0) [], .spc 1 0 131 (.var 0) []])]⟩
-- k12 k13
def d__law_back : Def := ⟨1, 2, [
  .tryw 1 [.ret (.meth 0 127 (.var 0) [])]]⟩
-- k12
def d_law_k12 : Def := ⟨1, 16, [
  .loc 1 (.list []),
  .asg (.name 2) (.call 33 [.var 0, .var 1, .con (.int 7)]),
  .asg (.tup [.name 3, .name 4, .name 5]) (.var 2),
  .par [(6, false), (7, false)] [.call 8 [.var 0, .var 1, .var 3], .call 8 [.var 0, .var 1, .var 3]],
  .par [(8, false), (9, false)] [.make 0 120 [.var 2, .var 6], .mk (.list [])],
  .for_ (.name 10) (.rng [.con (.int 12)]) [.ite (.and (.cmp .ne (.var 9) (.list [])) (.or (.cmp .eq (.spc 0 0 130 (.var 8) []) (.bi .len [.var 5])) (.cmp .eq (.call 8 [.var 0, .var 1, .con (.int 4)]) (.con (.int 0))))) [.asg (.name 11) (.idx (.meth 0 124 (.var 8) []) (.neg (.con (.int 1)))), .ite (.or (.cmp .ne (.meth 0 127 (.var 8) []) (.var 11)) (.cmp .ne (.call 16 [.var 8]) (.pop (.var 9)))) [.ret (.con (.bl false))] []] [.ite (.cmp .lt (.spc 0 0 130 (.var 8) []) (.bi .len [.var 5])) [.append 9 (.call 16 [.var 8]), .expr (.meth 0 121 (.var 8) [.call 32 [.var 0, .var 1, .var 3, .idx (.var 5) (.spc 0 0 130 (.var 8) []), .tup [.con (.int 0), .var 3]]])] []]],
  .par [(12, false), (11, false), (13, false)] [.meth 0 124 (.var 8) [], .call 16 [.var 8], .meth 0 128 (.var 8) []],
  .ite (.or (.not (.call 30 [.spc 2 0 129 (.var 13) [.var 8], .con (.bl true)])) (.or (.cmp .ne (.call 16 [.var 13]) (.var 11)) (.cmp .ne (.call 2 [.var 13]) (.tup [.con (.str [114, 101, 102, 117, 115, 101, 100]), .con (.int 11)])))) [.ret (.con (.bl false))] [],
  .asg (.name 14) (.make 0 120 [.var 2, .var 7]),
  .for_ (.name 15) (.var 12) [.expr (.meth 0 121 (.var 14) [.var 15])],
  .ite (.not (.call 30 [.spc 2 0 129 (.var 14) [.var 8], .cmp .eq (.meth 0 123 (.var 14) []) (.meth 0 123 (.var 8) [])])) [.ret (.con (.bl false))] [],
  .while_ (.cmp .ne (.var 9) (.list [])) [.expr (.meth 0 127 (.var 8) []), .ite (.cmp .ne (.call 16 [.var 8]) (.pop (.var 9))) [.ret (.con (.bl false))] []],
  .ite (.or (.not (.call 30 [.spc 2 0 129 (.var 8) [.make 0 120 [.var 2, .var 6]], .con (.bl true)])) (.cmp .ne (.call 16 [.var 13]) (.var 11))) [.ret (.con (.bl false))] [],
  .for_ (.name 15) (.var 12) [.expr (.meth 0 121 (.var 8) [.var 15])],
  .ite (.or (.cmp .ne (.call 16 [.var 8]) (.var 11)) (.cmp .eq (.spc 0 0 130 (.var 13) []) (.bi .len [.var 5]))) [.ret (.cmp .eq (.call 16 [.var 8]) (.var 11))] [],
  .expr (.meth 0 121 (.var 13) [.tup []]),
  .ret (.and (.call 30 [.spc 2 0 129 (.var 13) [.var 8], .con (.bl false)]) (.and (.cmp .eq (.meth 0 127 (.var 13) []) (.tup [])) (.cmp .eq (.call 16 [.var 8]) (.var 11))))]⟩
-- k13
def d_Play_waiting_k13 : Def := ⟨1, 1, [
  .expr (.call 39 [.con (.int 0)])]⟩
-- k13
def d__law_ask_k13 : Def := ⟨2, 3, [
  .tryw 2 [.ret (.meth 0 121 (.var 0) [.var 1])]]⟩
-- k13
def d_law_k13 : Def := ⟨1, 5, [
  .asg (.name 1) (.list []),
  .asg (.name 2) (.make 0 120 [.tup [.con (.int 5), .con (.int 1), .tup [.con (.int 2), .con (.int 0), .con (.int 1)]], .con (.int 2)]),
  .ite (.cmp .ne (.call 2 [.var 2]) (.tup [.con (.str [114, 101, 102, 117, 115, 101, 100]), .con (.int 11)])) [.ret (.con (.bl false))] [],
  .for_ (.name 3) (.list [.con (.non), .con (.int 3), .tup [.con (.int 0)], .tup [.con (.int 5)], .tup [.con (.str [49])], .tup [.con (.bl true)], .list [.con (.int 1)], .tup [.con (.int 3), .con (.int 1)], .tup [.con (.int 2), .con (.int 2)], .tup [.con (.int 1), .con (.int 2), .con (.int 3)]]) [.ite (.cmp .ne (.call 1 [.var 2, .var 3]) (.tup [.con (.str [114, 101, 102, 117, 115, 101, 100]), .con (.int 9)])) [.ret (.con (.bl false))] []],
  .ite (.cmp .isnt (.meth 0 121 (.var 2) [.tup [.con (.int 1), .con (.int 3)]]) (.con (.non))) [.ret (.con (.bl false))] [],
  .for_ (.name 3) (.list [.con (.non), .tup [.con (.int 1)], .con (.int 0), .con (.bl false)]) [.ite (.cmp .ne (.call 1 [.var 2, .var 3]) (.tup [.con (.str [114, 101, 102, 117, 115, 101, 100]), .con (.int 9)])) [.ret (.con (.bl false))] []],
  .ite (.or (.not (.call 29 [.meth 0 121 (.var 2) [.tup []], .con (.int 1)])) (.or (.cmp .isnt (.meth 0 121 (.var 2) [.tup [.con (.int 2)]]) (.con (.non))) (.cmp .ne (.meth 0 123 (.var 2) []) (.list [.con (.int 1), .con (.int 1)])))) [.ret (.con (.bl false))] [],
  .ite (.or (.cmp .ne (.lc (.call 1 [.var 2, .var 3]) [3] (.name 3) (.tup [.tup [], .con (.non), .con (.int 9)]) []) (.bin .mul (.list [.tup [.con (.str [114, 101, 102, 117, 115, 101, 100]), .con (.int 10)]]) (.con (.int 3)))) (.cmp .ne (.meth 0 124 (.var 2) []) (.list [.tup [.con (.int 1), .con (.int 3)], .tup [], .tup [.con (.int 2)]]))) [.ret (.con (.bl false))] [],
  .ite (.or (.not (.call 30 [.spc 2 0 129 (.var 2) [.make 0 120 [.tup [.con (.int 5), .con (.int 1), .tup [.con (.int 2), .con (.int 0), .con (.int 1)]], .con (.int 2)]], .con (.bl false)])) (.not (.call 30 [.spc 2 0 129 (.var 2) [.con (.str [50, 48, 49])], .con (.bl false)]))) [.ret (.con (.bl false))] [],
  .ite (.not (.call 30 [.spc 2 0 129 (.make 0 120 [.tup [.con (.int 5), .con (.int 1), .tup []], .con (.int 2)]) [.make 0 120 [.tup [.con (.int 5), .con (.int 2), .tup []], .con (.int 2)]], .con (.bl false)])) [.ret (.con (.bl false))] [],
  .ite (.not (.call 30 [.spc 2 0 129 (.make 0 120 [.tup [.con (.int 5), .con (.int 1), .tup []], .con (.int 2)]) [.make 0 120 [.tup [.con (.int 5), .con (.int 1), .tup []], .con (.int 4)]], .con (.bl true)])) [.ret (.con (.bl false))] [],
  .ite (.or (.cmp .ne (.meth 0 126 (.make 0 120 [.tup [.con (.int 5), .con (.int 1), .tup []], .con (.int 2)]) []) (.tup [.con (.int 0), .con (.int 5)])) (.cmp .ne (.spc 1 0 131 (.var 2) []) (.con (.str [50, 48, 49])))) [.ret (.con (.bl false))] [],
  .ret (.cmp .eq (.lc (.call 2 [.var 2]) [4] (.name 4) (.rng [.con (.int 4)]) []) (.list [.tup [.con (.int 2)], .tup [], .tup [.con (.int 1), .con (.int 3)], .tup [.con (.str [114, 101, 102, 117, 115, 101, 100]), .con (.int 11)]]))]⟩
-- k14
def d_law_k14 : Def := ⟨1, 18, [
  .loc 1 (.list []),
  .par [(2, false), (3, false)] [.call 8 [.var 0, .var 1, .con (.int 6)], .call 31 [.var 0, .var 1, .con (.int 8)]],
  .asg (.name 4) (.bi .min [.con (.int 64), .call 80 [.var 2, .var 3]]),
  .asg (.name 5) (.call 25 [.var 0, .var 1, .list [.var 4, .bin .add (.con (.int 1)) (.call 8 [.var 0, .var 1, .var 4])]]),
  .asg (.name 6) (.call 8 [.var 0, .var 1, .var 5]),
  .par [(7, false), (8, false)] [.make 0 120 [.tup [.var 5, .var 2, .var 3], .var 6], .call 47 [.tup [.var 5, .var 2, .var 3]]],
  .while_ (.cmp .eq (.idx (.var 8) (.con (.int 0))) (.con (.str [97, 115, 107]))) [.asg (.name 9) (.meth 0 121 (.var 7) [.idx (.var 8) (.con (.int 1))]), .asg (.name 8) (.idx (.idx (.var 8) (.con (.int 2))) (.ite (.cmp .is (.var 9) (.con (.non))) (.con (.int 0)) (.var 9)))],
  .ite (.cmp .ne (.meth 0 126 (.var 7) []) (.tup [.var 6, .bin .add (.var 6) (.con (.int 1))])) [.ret (.con (.bl false))] [],
  .par [(2, false), (3, false)] [.call 8 [.var 0, .var 1, .con (.int 3)], .call 31 [.var 0, .var 1, .con (.int 3)]],
  .asg (.name 5) (.bin .add (.con (.int 1)) (.call 8 [.var 0, .var 1, .bi .min [.con (.int 6), .call 80 [.var 2, .var 3]]])),
  .asg (.name 6) (.call 8 [.var 0, .var 1, .var 5]),
  .par [(10, false), (11, false)] [.tup [.var 5, .var 2, .tup [], .var 3], .con (.int 0)],
  .asg (.name 7) (.make 0 120 [.tup [.var 5, .var 2, .var 3], .var 6]),
  .while_ (.cmp .ne (.idx (.var 10) (.con (.int 3))) (.tup [])) [.asg (.name 12) (.call 25 [.var 0, .var 1, .call 60 [.var 10]]), .asg (.name 9) (.meth 0 121 (.var 7) [.bi .tuple [.lc (.bin .add (.var 17) (.var 11)) [17] (.name 17) (.var 12) []]]), .ite (.not (.call 49 [.var 10])) [.ret (.con (.bl false))] [], .asg (.name 13) (.call 45 [.var 10, .var 12]), .asg (.name 14) (.idx (.meth 0 126 (.var 7) []) (.con (.int 0))), .ite (.cmp .gt (.bin .add (.bi .len [.idx (.var 10) (.con (.int 2))]) (.con (.int 1))) (.var 2)) [.par [(15, false), (16, false)] [.con (.int 0), .con (.int 0)], .while_ (.cmp .le (.bin .add (.bin .add (.var 11) (.var 15)) (.idx (.idx (.var 13) (.var 16)) (.con (.int 0)))) (.var 6)) [.par [(15, false), (16, false)] [.bin .add (.var 15) (.idx (.idx (.var 13) (.var 16)) (.con (.int 0))), .bin .add (.var 16) (.con (.int 1))]], .par [(11, false), (10, false)] [.bin .add (.var 11) (.var 15), .idx (.var 13) (.var 16)], .ite (.or (.and (.cmp .ne (.idx (.var 10) (.con (.int 3))) (.tup [])) (.cmp .ne (.var 11) (.var 14))) (.and (.cmp .isnt (.var 9) (.con (.non))) (.cmp .lt (.var 9) (.var 16)))) [.ret (.con (.bl false))] []] [.asg (.name 10) (.idx (.var 13) (.con (.int 0)))]],
  .ret (.cmp .eq (.meth 0 126 (.var 7) []) (.tup [.var 6, .bin .add (.var 6) (.con (.int 1))]))]⟩
-- k15
def d_law_k15 : Def := ⟨1, 17, [
  .loc 1 (.list []),
  .asg (.name 2) (.tup [.con (.str [101, 110, 100])]),
  .asg (.name 3) (.bin .add (.con (.int 1)) (.call 8 [.var 0, .var 1, .con (.int 5)])),
  .par [(4, false), (5, false)] [.bin .mul (.tup [.con (.int 1)]) (.var 3), .tup [.bin .add (.var 3) (.con (.int 1)), .con (.int 5), .bin .mul (.tup [.con (.int 1)]) (.var 3)]],
  .ite (.or (.cmp .ne (.call 80 [.con (.int 5), .var 4]) (.bin .add (.var 3) (.con (.int 1)))) (.cmp .ne (.call 80 [.con (.int 0), .var 4]) (.bin .mul (.con (.int 2)) (.call 80 [.con (.int 0), .slc (.var 4) [.con (.int 1)] []])))) [.ret (.con (.bl false))] [],
  .ite (.cmp .ne (.call 111 [.var 5, .call 47 [.var 5], .con (.int 0)]) (.bi .tuple [.lc (.tup [.var 6]) [6] (.name 6) (.rng [.con (.int 1), .bin .add (.var 3) (.con (.int 1))]) []])) [.ret (.con (.bl false))] [],
  .ite (.cmp .ne (.list [.idx (.call 47 [.tup [.con (.int 3), .con (.int 1), .tup [.con (.int 1), .con (.int 1)]]]) (.con (.int 2)), .call 47 [.tup [.con (.int 1), .con (.int 0), .tup [.con (.int 1)]]]]) (.list [.tup [.tup [.con (.str [97, 115, 107]), .tup [.con (.int 2)], .tup [.var 2, .var 2]]], .tup [.con (.str [97, 115, 107]), .tup [], .tup [.var 2]]])) [.ret (.con (.bl false))] [],
  .par [(7, false), (8, false)] [.tup [.con (.str [97, 115, 107]), .tup [.con (.int 1)], .tup [.var 2, .var 2]], .tup [.con (.str [97, 115, 107]), .tup [.con (.int 4)], .tup [.var 2, .var 2]]],
  .asg (.name 9) (.call 47 [.tup [.con (.int 5), .con (.int 1), .tup [.con (.int 1), .con (.int 1), .con (.int 1)]]]),
  .ite (.cmp .ne (.var 9) (.tup [.con (.str [97, 115, 107]), .tup [.con (.int 2)], .tup [.tup [.con (.str [97, 115, 107]), .tup [.con (.int 3)], .tup [.var 7, .var 8]]]])) [.ret (.con (.bl false))] [],
  .ite (.or (.cmp .ne (.call 67 [.tup [.con (.int 5), .con (.int 1), .tup [.con (.int 1), .con (.int 1), .con (.int 1)]], .var 9, .con (.int 0)]) (.list [.con (.int 1)])) (.cmp .ne (.call 67 [.tup [.con (.int 5), .con (.int 1), .tup [.con (.int 1), .con (.int 1), .con (.int 1)]], .var 9, .con (.int 4)]) (.list []))) [.ret (.con (.bl false))] [],
  .ite (.cmp .ne (.call 47 [.tup [.con (.int 4), .con (.int 0), .tup [.con (.int 1), .con (.int 1)]]]) (.tup [.con (.str [97, 115, 107]), .tup [.con (.int 2)], .tup [.var 7, .tup [.con (.str [97, 115, 107]), .tup [.con (.int 3)], .tup [.var 2, .var 2]]]])) [.ret (.con (.bl false))] [],
  .ite (.or (.cmp .ne (.idx (.call 47 [.tup [.con (.int 6), .con (.int 5), .tup [.con (.int 2), .con (.int 0), .con (.int 3)]]]) (.con (.int 1))) (.tup [.con (.int 1), .con (.int 2)])) (.cmp .ne (.call 47 [.tup [.con (.int 3), .con (.int 0), .tup [.con (.int 2)]]]) (.tup [.con (.str [97, 115, 107]), .tup [.con (.int 1), .con (.int 2)], .tup [.var 2, .var 2, .var 2]]))) [.ret (.con (.bl false))] [],
  .ite (.or (.cmp .ne (.call 60 [.tup [.con (.int 5), .con (.int 1), .tup [], .tup [.con (.int 1), .con (.int 1), .con (.int 1)]]]) (.list [.tup [.con (.int 2)], .tup [.con (.int 3)]])) (.cmp .ne (.call 60 [.tup [.con (.int 4), .con (.int 0), .tup [], .tup [.con (.int 1), .con (.int 1)]]]) (.list [.tup [.con (.int 2)]]))) [.ret (.con (.bl false))] [],
  .asg (.name 10) (.list [.tup [.con (.int 5), .con (.int 0), .tup [], .tup [.con (.int 1), .con (.int 1)]], .tup [.con (.int 5), .con (.int 1), .tup [.tup [.con (.int 2)]], .tup [.con (.int 1), .con (.int 1)]], .tup [.con (.int 5), .con (.int 1), .tup [.tup [.con (.int 1)]], .tup [.con (.int 1), .con (.int 1)]]]),
  .ite (.cmp .ne (.lc (.call 49 [.var 11]) [11] (.name 11) (.var 10) []) (.list [.con (.bl false), .con (.bl true), .con (.bl false)])) [.ret (.con (.bl false))] [],
  .asg (.name 12) (.call 47 [.tup [.con (.int 1), .con (.int 0), .bin .mul (.tup [.con (.int 0)]) (.var 3)]]),
  .for_ (.name 13) (.rng [.var 3]) [.ite (.cmp .ne (.slc (.var 12) [] [.con (.int 2)]) (.tup [.con (.str [97, 115, 107]), .tup []])) [.ret (.con (.bl false))] [], .asg (.name 12) (.idx (.idx (.var 12) (.con (.int 2))) (.con (.int 0)))],
  .ite (.or (.cmp .ne (.var 12) (.var 2)) (.cmp .ne (.call 80 [.con (.int 0), .bin .mul (.tup [.con (.int 0)]) (.var 3)]) (.con (.int 1)))) [.ret (.con (.bl false))] [],
  .asg (.name 14) (.call 8 [.var 0, .var 1, .con (.int 4)]),
  .asg (.name 15) (.lc (.call 80 [.var 14, .bin .mul (.tup [.con (.int 1)]) (.var 16)]) [16] (.name 16) (.rng [.con (.int 9)]) []),
  .for_ (.name 16) (.rng [.con (.int 1), .con (.int 9)]) [.ite (.cmp .ne (.idx (.var 15) (.var 16)) (.bin .add (.idx (.var 15) (.bin .sub (.var 16) (.con (.int 1)))) (.ite (.cmp .gt (.var 16) (.var 14)) (.idx (.var 15) (.bin .sub (.bin .sub (.var 16) (.con (.int 1))) (.var 14))) (.con (.int 1))))) [.ret (.con (.bl false))] []],
  .ret (.cmp .is (.call 55 [.tup [.con (.int 8), .con (.int 1), .bin .mul (.tup [.con (.int 1)]) (.con (.int 4))], .call 47 [.tup [.con (.int 8), .con (.int 1), .bin .mul (.tup [.con (.int 1)]) (.con (.int 4))]]]) (.con (.bl true)))]⟩
-- k16
def d__law_lists : Def := ⟨3, 4, [
  .new 3 (.list [.call 95 [.var 0, .var 1], .call 67 [.var 0, .var 1, .con (.int 0)], .call 115 [.idx (.var 0) (.con (.int 1)), .idx (.var 0) (.con (.int 2))], .call 60 [.tup [.con (.int 3), .con (.int 1), .tup [], .tup [.con (.int 1), .con (.int 1)]]]]),
  .extend 3 (.list [.call 45 [.tup [.con (.int 3), .con (.int 1), .tup [.tup [.con (.int 2)]], .tup [.con (.int 1), .con (.int 1)]], .tup [.con (.int 1)]], .meth 0 123 (.var 2) [], .meth 0 124 (.var 2) [], .meth 0 125 (.var 2) []]),
  .frz 3,
  .ret (.var 3)]⟩
-- k16
def d_law_k16 : Def := ⟨1, 11, [
  .loc 1 (.list []),
  .new 2 (.list []),
  .for_ (.name 3) (.rng [.con (.int 2)]) [.asg (.name 4) (.call 33 [.var 0, .var 1, .con (.int 5)]), .asg (.name 5) (.call 34 [.var 0, .var 1, .var 4, .tup [], .tup [.con (.int 0), .idx (.var 4) (.con (.int 0))]]), .asg (.name 6) (.make 0 120 [.var 4, .call 8 [.var 0, .var 1, .idx (.var 4) (.con (.int 0))]]), .ite (.cmp .ne (.idx (.var 4) (.con (.int 2))) (.tup [])) [.expr (.meth 0 121 (.var 6) [.tup []])] [], .append 2 (.tup [.var 4, .var 5, .var 6])],
  .asg (.name 7) (.lc (.lc (.bi .list [.var 8]) [8] (.name 8) (.call 15 [.var 4, .var 5, .var 6]) []) [4, 5, 6] (.tup [.name 4, .name 5, .name 6]) (.var 2) []),
  .for_ (.name 3) (.rng [.con (.int 2)]) [.frz 2, .for_ (.tup [.name 9, .tup [.name 4, .name 5, .name 6]]) (.enm [.var 2]) [.asg (.name 10) (.call 15 [.var 4, .var 5, .var 6]), .ite (.cmp .ne (.var 10) (.idx (.var 7) (.var 9))) [.ret (.con (.bl false))] [], .for_ (.name 8) (.var 10) [.append 8 (.con (.non)), .expr (.bad)]]],
  .ret (.con (.bl true))]⟩
-- k17 k18 k22 k23
def d_is_entry : Def := ⟨2, 2, [
  .ite (.or (.not (.isa (.var 1) .tuple)) (.or (.cmp .ne (.bi .len [.var 1]) (.con (.int 2))) (.not (.call 74 [.idx (.var 1) (.con (.int 0)), .con (.int 0), .bin .sub (.bi .len [.var 0]) (.con (.int 1))])))) [.ret (.con (.bl false))] [],
  .ret (.call 74 [.idx (.var 1) (.con (.int 1)), .con (.int 0), .bin .sub (.idx (.var 0) (.idx (.var 1) (.con (.int 0)))) (.con (.int 1))])]⟩
-- k17 k18 k22 k23
def d_good_row : Def := ⟨3, 5, [
  .ite (.or (.not (.isa (.var 2) .tuple)) (.not (.bi .all [.lc (.call 68 [.var 1, .var 3]) [3] (.name 3) (.var 2) []]))) [.ret (.con (.bl false))] [],
  .ret (.bi .all [.lc (.cmp .gt (.bin .sub (.idx (.var 4) (.con (.int 0))) (.idx (.var 3) (.con (.int 0)))) (.var 0)) [3, 4] (.tup [.name 3, .name 4]) (.zip [.var 2, .slc (.var 2) [.con (.int 1)] []]) []])]⟩
-- k17 k22
def d_is_row : Def := ⟨3, 3, [
  .expr (.call 87 [.var 0]),
  .expr (.call 85 [.var 1]),
  .ret (.call 64 [.var 0, .var 1, .var 2])]⟩
-- k17 k18 k21 k22 k23
def d_row_of : Def := ⟨3, 6, [
  .expr (.call 87 [.var 0]),
  .expr (.call 85 [.var 1]),
  .ite (.not (.call 74 [.var 2, .con (.int 0), .bin .sub (.call 81 [.var 0, .var 1]) (.con (.int 1))])) [.raise_ 2] [],
  .par [(3, true), (4, false)] [.list [], .con (.int 0)],
  .while_ (.cmp .lt (.var 4) (.bi .len [.var 1])) [.asg (.name 5) (.call 81 [.var 0, .slc (.var 1) [.bin .add (.bin .add (.var 4) (.con (.int 1))) (.var 0)] []]), .ite (.cmp .lt (.var 2) (.bin .mul (.idx (.var 1) (.var 4)) (.var 5))) [.append 3 (.tup [.var 4, .bin .fdiv (.var 2) (.var 5)]), .asg (.name 2) (.bin .mod (.var 2) (.var 5)), .aug 4 .add (.bin .add (.con (.int 1)) (.var 0))] [.aug 2 .sub (.bin .mul (.idx (.var 1) (.var 4)) (.var 5)), .aug 4 .add (.con (.int 1))]],
  .ret (.bi .tupleR [.var 3])]⟩
-- k17 k18 k22 k23
def d_thing_of : Def := ⟨3, 9, [
  .expr (.call 87 [.var 0]),
  .expr (.call 85 [.var 1]),
  .ite (.not (.call 64 [.var 0, .var 1, .var 2])) [.raise_ 12] [],
  .par [(3, false), (4, false), (5, false)] [.con (.int 0), .con (.int 0), .dictR (.var 2)],
  .for_ (.tup [.name 6, .name 7]) (.enm [.var 1]) [.asg (.name 8) (.call 81 [.var 0, .slc (.var 1) [.bin .add (.bin .add (.var 6) (.con (.int 1))) (.var 0)] []]), .ite (.cmp .inn (.var 6) (.var 5)) [.aug 3 .add (.bin .mul (.idx (.var 5) (.var 6)) (.var 8)), .asg (.name 4) (.bin .add (.bin .add (.var 6) (.con (.int 1))) (.var 0))] [.ite (.cmp .ge (.var 6) (.var 4)) [.aug 3 .add (.bin .mul (.var 7) (.var 8))] []]],
  .ret (.var 3)]⟩
-- k17
def d__law_all_rows : Def := ⟨2, 8, [
  .asg (.name 2) (.list [.tup []]),
  .for_ (.tup [.name 3, .name 4]) (.enm [.var 1]) [.new 5 (.list []), .for_ (.name 6) (.var 2) [.ite (.or (.cmp .eq (.var 6) (.tup [])) (.cmp .gt (.bin .sub (.var 3) (.idx (.idx (.var 6) (.neg (.con (.int 1)))) (.con (.int 0)))) (.var 0))) [.extend 5 (.lc (.bin .add (.var 6) (.tup [.tup [.var 3, .var 7]])) [7] (.name 7) (.rng [.var 4]) [])] []], .asg (.name 2) (.bin .add (.var 2) (.var 5))],
  .ret (.var 2)]⟩
-- k17
def d_law_k17 : Def := ⟨1, 10, [
  .loc 1 (.list []),
  .par [(2, false), (3, false)] [.call 8 [.var 0, .var 1, .con (.int 4)], .call 31 [.var 0, .var 1, .con (.int 6)]],
  .asg (.name 4) (.bi .sorted [.lc (.bin .add (.var 5) (.tup [.tup [.con (.int 9), .con (.int 0)]])) [5] (.name 5) (.call 0 [.var 2, .var 3]) []]),
  .ite (.not (.call 29 [.call 80 [.var 2, .var 3], .bi .len [.var 4]])) [.ret (.con (.bl false))] [],
  .asg (.name 6) (.bi .listRange [.bi .len [.var 4]]),
  .ite (.cmp .gt (.bi .len [.var 4]) (.con (.int 60))) [.asg (.name 6) (.bin .add (.slc (.var 6) [] [.con (.int 20)]) (.lc (.call 8 [.var 0, .var 1, .bi .len [.var 4]]) [7] (.name 7) (.rng [.con (.int 20)]) []))] [],
  .for_ (.name 8) (.var 6) [.par [(5, false), (9, false)] [.idx (.var 4) (.var 8), .call 106 [.var 2, .var 3, .var 8]], .ite (.or (.cmp .ne (.var 9) (.slc (.var 5) [] [.neg (.con (.int 1))])) (.or (.cmp .isnt (.call 72 [.var 2, .var 3, .var 9]) (.con (.bl true))) (.cmp .ne (.call 108 [.var 2, .var 3, .var 9]) (.var 8)))) [.ret (.con (.bl false))] []],
  .ret (.con (.bl true))]⟩
-- k18
def d_law_k18 : Def := ⟨1, 12, [
  .loc 1 (.list []),
  .par [(2, false), (3, false)] [.call 8 [.var 0, .var 1, .con (.int 5)], .call 31 [.var 0, .var 1, .con (.int 7)]],
  .while_ (.cmp .gt (.call 7 [.var 2, .var 3]) (.con (.int 64))) [.asg (.name 3) (.slc (.var 3) [.con (.int 1)] [])],
  .asg (.name 4) (.tup [.call 7 [.var 2, .var 3], .var 2, .var 3]),
  .asg (.name 5) (.call 47 [.var 4]),
  .for_ (.name 6) (.rng [.idx (.var 4) (.con (.int 0))]) [.par [(7, true), (8, false)] [.list [], .con (.int 0)], .for_ (.tup [.name 9, .name 10]) (.enm [.idx (.call 24 [.var 4, .var 5, .var 6]) (.con (.int 0))]) [.asg (.name 11) (.call 27 [.var 10, .var 6]), .ite (.and (.cmp .ge (.var 9) (.var 8)) (.cmp .lt (.var 11) (.bi .len [.var 10]))) [.append 7 (.tup [.var 9, .var 11]), .asg (.name 8) (.bin .add (.bin .add (.var 9) (.con (.int 1))) (.var 2))] []], .ite (.or (.cmp .ne (.call 106 [.var 2, .var 3, .var 6]) (.bi .tuple [.var 7])) (.cmp .ne (.call 108 [.var 2, .var 3, .bi .tupleR [.var 7]]) (.var 6))) [.ret (.con (.bl false))] []],
  .ret (.con (.bl true))]⟩
-- k19 k22
def d_orders_of : Def := ⟨1, 5, [
  .ite (.cmp .eq (.var 0) (.tup [])) [.ret (.list [.tup []])] [],
  .new 1 (.list []),
  .for_ (.name 2) (.bi .sortedSet [.var 0]) [.asg (.name 3) (.bi .index [.var 0, .var 2]), .extend 1 (.lc (.bin .add (.tup [.var 2]) (.var 4)) [4] (.name 4) (.call 94 [.bin .add (.slc (.var 0) [] [.var 3]) (.slc (.var 0) [.bin .add (.var 3) (.con (.int 1))] [])]) [])],
  .frz 1,
  .ret (.var 1)]⟩
-- k19 k22
def d_best_order : Def := ⟨2, 5, [
  .expr (.call 87 [.var 0]),
  .expr (.call 85 [.var 1]),
  .asg (.name 2) (.con (.non)),
  .for_ (.name 3) (.call 94 [.var 1]) [.asg (.name 4) (.call 81 [.var 0, .var 3]), .ite (.or (.cmp .is (.var 2) (.con (.non))) (.cmp .gt (.var 4) (.idx (.var 2) (.con (.int 0))))) [.asg (.name 2) (.tup [.var 4, .var 3])] []],
  .ret (.idx (.var 2) (.con (.int 1)))]⟩
-- k19
def d__law_orders : Def := ⟨1, 6, [
  .asg (.name 1) (.list [.tup []]),
  .for_ (.name 2) (.var 0) [.new 3 (.dictN), .for_ (.name 4) (.var 1) [.for_ (.name 5) (.rng [.bin .add (.bi .len [.var 4]) (.con (.int 1))]) [.setix 3 (.bin .add (.bin .add (.slc (.var 4) [] [.var 5]) (.tup [.var 2])) (.slc (.var 4) [.var 5] [])) (.con (.bl true))]], .asg (.name 1) (.bi .sorted [.bi .list [.var 3]])],
  .ret (.var 1)]⟩
-- k19
def d_law_k19 : Def := ⟨1, 11, [
  .loc 1 (.list []),
  .par [(2, false), (3, false)] [.call 8 [.var 0, .var 1, .con (.int 5)], .call 31 [.var 0, .var 1, .con (.int 6)]],
  .asg (.name 4) (.bi .sorted [.lc (.tup [.bin .sub (.con (.int 0)) (.call 7 [.var 2, .var 5]), .var 5]) [5] (.name 5) (.call 22 [.var 3]) []]),
  .ite (.or (.cmp .ne (.call 48 [.var 2, .var 3]) (.idx (.idx (.var 4) (.con (.int 0))) (.con (.int 1)))) (.cmp .ne (.call 80 [.var 2, .call 48 [.var 2, .var 3]]) (.bin .sub (.con (.int 0)) (.idx (.idx (.var 4) (.con (.int 0))) (.con (.int 0)))))) [.ret (.con (.bl false))] [],
  .ite (.or (.cmp .ne (.call 80 [.var 2, .rev (.var 3)]) (.call 80 [.var 2, .var 3])) (.cmp .ne (.call 80 [.var 2, .var 3]) (.call 7 [.var 2, .var 3]))) [.ret (.con (.bl false))] [],
  .par [(6, false), (7, false)] [.slc (.var 3) [] [.con (.int 2)], .call 31 [.var 0, .var 1, .con (.int 2)]],
  .ite (.cmp .le (.bin .add (.bin .add (.bi .len [.var 6]) (.var 2)) (.bi .len [.var 7])) (.con (.int 8))) [.ite (.cmp .ne (.call 80 [.var 2, .bin .add (.bin .add (.var 6) (.bin .mul (.tup [.con (.int 0)]) (.var 2))) (.var 7)]) (.bin .mul (.call 80 [.var 2, .var 6]) (.call 80 [.var 2, .var 7]))) [.ret (.con (.bl false))] []] [],
  .ite (.cmp .eq (.bi .len [.var 3]) (.con (.int 0))) [.ret (.con (.bl true))] [],
  .asg (.name 8) (.call 8 [.var 0, .var 1, .bi .len [.var 3]]),
  .asg (.name 9) (.bin .add (.bin .add (.slc (.var 3) [] [.var 8]) (.tup [.bi .min [.con (.int 3), .bin .add (.idx (.var 3) (.var 8)) (.con (.int 1))]])) (.slc (.var 3) [.bin .add (.var 8) (.con (.int 1))] [])),
  .ite (.or (.cmp .lt (.call 80 [.var 2, .var 9]) (.call 80 [.var 2, .var 3])) (.and (.cmp .gt (.var 2) (.con (.int 0))) (.cmp .lt (.call 80 [.bin .sub (.var 2) (.con (.int 1)), .var 3]) (.call 80 [.var 2, .var 3])))) [.ret (.con (.bl false))] [],
  .asg (.name 10) (.bin .add (.bin .add (.slc (.var 3) [] [.var 8]) (.tup [.call 8 [.var 0, .var 1, .con (.int 4)]])) (.slc (.var 3) [.var 8] [])),
  .ret (.and (.cmp .ge (.call 80 [.var 2, .var 10]) (.call 80 [.var 2, .var 3])) (.cmp .eq (.call 80 [.var 2, .bin .add (.var 3) (.tup [.con (.int 0)])]) (.call 80 [.var 2, .var 3])))]⟩
-- k20 k21 k22
def d_look_behind : Def := ⟨4, 6, [
  .asg (.name 4) (.slc (.var 1) [] [.bi .max [.con (.int 0), .bin .sub (.var 3) (.idx (.var 0) (.con (.int 1)))]]),
  .ret (.tup [.slc (.var 1) [] [.var 3], .bi .tuple [.lc (.call 40 [.var 5, .var 2]) [5] (.name 5) (.var 4) []]])]⟩
-- k20 k21 k22
def d_when_of : Def := ⟨3, 7, [
  .asg (.name 3) (.lc (.call 112 [.var 0, .var 1, .var 4]) [4] (.name 4) (.rng [.idx (.var 0) (.con (.int 0))]) []),
  .for_ (.name 5) (.rng [.bin .add (.bi .len [.idx (.var 0) (.con (.int 2))]) (.con (.int 1))]) [.asg (.name 6) (.call 78 [.var 0, .idx (.var 3) (.var 2), .var 2, .var 5]), .ite (.cmp .eq (.bi .len [.lc (.var 4) [4] (.name 4) (.rng [.idx (.var 0) (.con (.int 0))]) [.cmp .eq (.call 78 [.var 0, .idx (.var 3) (.var 4), .var 4, .var 5]) (.var 6)]]) (.con (.int 1))) [.ret (.var 5)] []],
  .ret (.ite (.cmp .inn (.list [.var 2]) (.call 96 [.var 0, .var 1])) (.bin .add (.bi .len [.idx (.var 0) (.con (.int 2))]) (.con (.int 1))) (.con (.non)))]⟩
-- k20 k21 k22
def d_known_at : Def := ⟨3, 3, [
  .expr (.call 84 [.var 0, .var 1, .var 2]),
  .ret (.call 113 [.var 0, .var 1, .var 2])]⟩
-- k20 k21 k22
def d_slowest : Def := ⟨2, 4, [
  .expr (.call 88 [.var 0, .var 1]),
  .asg (.name 2) (.lc (.call 113 [.var 0, .var 1, .var 3]) [3] (.name 3) (.rng [.idx (.var 0) (.con (.int 0))]) []),
  .ret (.ite (.cmp .inn (.con (.non)) (.var 2)) (.con (.non)) (.bi .max [.var 2]))]⟩
-- k20
def d__law_look_k20 : Def := ⟨4, 6, [
  .new 4 (.list []),
  .for_ (.name 5) (.rng [.var 3]) [.ite (.cmp .ge (.var 5) (.idx (.var 0) (.con (.int 1)))) [.append 4 (.call 27 [.idx (.var 1) (.bin .sub (.var 5) (.idx (.var 0) (.con (.int 1)))), .var 2])] []],
  .frz 4,
  .ret (.tup [.slc (.var 1) [] [.var 3], .var 4])]⟩
-- k20
def d__law_when : Def := ⟨3, 9, [
  .for_ (.name 3) (.rng [.bin .add (.bi .len [.idx (.var 0) (.con (.int 2))]) (.con (.int 1))]) [.asg (.name 4) (.call 16 [.var 0, .idx (.var 1) (.var 2), .var 2, .var 3]), .ite (.cmp .eq (.lc (.var 5) [5] (.name 5) (.rng [.idx (.var 0) (.con (.int 0))]) [.cmp .eq (.call 16 [.var 0, .idx (.var 1) (.var 5), .var 5, .var 3]) (.var 4)]) (.list [.var 2])) [.ret (.var 3)] []],
  .par [(6, false), (7, true)] [.lc (.call 27 [.var 8, .var 2]) [8] (.name 8) (.idx (.var 1) (.var 2)) [], .list []],
  .for_ (.name 5) (.rng [.idx (.var 0) (.con (.int 0))]) [.ite (.and (.cmp .eq (.idx (.var 1) (.var 5)) (.idx (.var 1) (.var 2))) (.cmp .eq (.lc (.call 27 [.var 8, .var 5]) [8] (.name 8) (.idx (.var 1) (.var 5)) []) (.var 6))) [.append 7 (.var 5)] []],
  .ret (.ite (.cmp .eq (.var 7) (.list [.var 2])) (.bin .add (.bi .len [.idx (.var 0) (.con (.int 2))]) (.con (.int 1))) (.con (.non)))]⟩
-- k20
def d_law_k20 : Def := ⟨1, 8, [
  .loc 1 (.list []),
  .asg (.name 2) (.call 33 [.var 0, .var 1, .con (.int 4)]),
  .asg (.name 2) (.tup [.bi .min [.idx (.var 2) (.con (.int 0)), .con (.int 12)], .idx (.var 2) (.con (.int 1)), .idx (.var 2) (.con (.int 2))]),
  .asg (.name 3) (.call 34 [.var 0, .var 1, .var 2, .tup [], .tup [.con (.int 0), .idx (.var 2) (.con (.int 0))]]),
  .asg (.name 4) (.lc (.idx (.call 24 [.var 2, .var 3, .var 5]) (.con (.int 0))) [5] (.name 5) (.rng [.idx (.var 2) (.con (.int 0))]) []),
  .asg (.name 6) (.lc (.call 36 [.var 2, .var 4, .var 5]) [5] (.name 5) (.rng [.idx (.var 2) (.con (.int 0))]) []),
  .for_ (.tup [.name 5, .name 7]) (.enm [.var 6]) [.ite (.cmp .ne (.call 75 [.var 2, .var 3, .var 5]) (.var 7)) [.ret (.con (.bl false))] []],
  .ret (.cmp .eq (.call 107 [.var 2, .var 3]) (.ite (.cmp .inn (.con (.non)) (.var 6)) (.con (.non)) (.bi .max [.var 6])))]⟩
-- k21
def d_law_k21 : Def := ⟨1, 13, [
  .loc 1 (.list []),
  .par [(2, false), (3, false)] [.call 8 [.var 0, .var 1, .con (.int 4)], .call 31 [.var 0, .var 1, .con (.int 6)]],
  .while_ (.cmp .gt (.call 7 [.var 2, .var 3]) (.con (.int 24))) [.asg (.name 3) (.slc (.var 3) [.con (.int 1)] [])],
  .asg (.name 4) (.tup [.call 7 [.var 2, .var 3], .var 2, .var 3]),
  .par [(5, false), (6, true)] [.call 47 [.var 4], .list []],
  .for_ (.name 7) (.rng [.idx (.var 4) (.con (.int 0))]) [.par [(8, false), (9, false)] [.call 106 [.var 2, .var 3, .var 7], .call 75 [.var 4, .var 5, .var 7]], .ite (.or (.cmp .is (.var 9) (.con (.non))) (.and (.cmp .ne (.var 8) (.tup [])) (.cmp .lt (.var 9) (.bi .min [.bin .add (.bi .len [.var 3]) (.con (.int 1)), .bin .add (.bin .add (.idx (.idx (.var 8) (.neg (.con (.int 1)))) (.con (.int 0))) (.var 2)) (.con (.int 1))])))) [.ret (.con (.bl false))] [], .ite (.and (.cmp .eq (.var 8) (.tup [])) (.and (.cmp .gt (.idx (.var 4) (.con (.int 0))) (.con (.int 1))) (.cmp .lt (.var 9) (.bi .min [.bin .add (.bi .len [.var 3]) (.con (.int 1)), .bin .add (.var 2) (.con (.int 1))])))) [.ret (.con (.bl false))] [], .append 6 (.var 9)],
  .ite (.or (.cmp .ne (.call 107 [.var 4, .var 5]) (.bi .max [.var 6])) (.or (.cmp .gt (.bi .max [.var 6]) (.bin .add (.bi .len [.var 3]) (.con (.int 1)))) (.cmp .ne (.cmp .eq (.bi .max [.var 6]) (.con (.int 0))) (.cmp .eq (.idx (.var 4) (.con (.int 0))) (.con (.int 1)))))) [.ret (.con (.bl false))] [],
  .asg (.name 10) (.bin .add (.list [.con (.int 0)]) (.lc (.var 11) [11, 12] (.tup [.name 11, .name 12]) (.enm [.var 3]) [.cmp .gt (.var 12) (.con (.int 0))])),
  .ret (.or (.cmp .eq (.idx (.var 4) (.con (.int 0))) (.con (.int 1))) (.cmp .lt (.call 80 [.var 2, .slc (.var 3) [] [.idx (.var 10) (.neg (.con (.int 1)))]]) (.idx (.var 4) (.con (.int 0)))))]⟩
-- k22
def d__law_ask_k22 : Def := ⟨4, 5, [
  .tryw 4 [.ite (.cmp .lt (.var 0) (.con (.int 3))) [.ret (.calld (.idx (.list [.glob [] (.fn 72), .glob [] (.fn 106), .glob [] (.fn 108)]) (.var 0)) [.var 1, .var 2, .var 3])] [], .ite (.cmp .eq (.var 0) (.con (.int 3))) [.ret (.call 48 [.var 1, .var 2])] [], .ret (.ite (.cmp .eq (.var 0) (.con (.int 4))) (.call 75 [.var 1, .var 2, .var 3]) (.call 107 [.var 1, .var 2]))]]⟩
-- k22
def d_law_k22 : Def := ⟨1, 8, [
  .loc 1 (.list []),
  .asg (.name 2) (.tup [.con (.int 1), .con (.int 2), .con (.int 0), .con (.int 3)]),
  .for_ (.name 3) (.list [.con (.non), .neg (.con (.int 1)), .con (.int 6), .con (.str [49]), .con (.bl true), .tup [.con (.int 1)]]) [.ite (.cmp .ne (.lc (.call 1 [.var 4, .var 3, .con (.non), .con (.non)]) [4] (.name 4) (.rng [.con (.int 4)]) []) (.bin .mul (.list [.tup [.con (.str [114, 101, 102, 117, 115, 101, 100]), .con (.int 5)]]) (.con (.int 4)))) [.ret (.con (.bl false))] []],
  .for_ (.name 3) (.list [.con (.non), .list [.con (.int 1)], .tup [.con (.int 1), .con (.int 4)], .tup [.con (.int 1), .neg (.con (.int 1))], .tup [.con (.bl true)], .tup [.con (.str [49])], .bin .mul (.tup [.con (.int 1)]) (.con (.int 9)), .con (.int 1)]) [.ite (.cmp .ne (.lc (.call 1 [.var 4, .con (.int 1), .var 3, .con (.non)]) [4] (.name 4) (.rng [.con (.int 4)]) []) (.bin .mul (.list [.tup [.con (.str [114, 101, 102, 117, 115, 101, 100]), .con (.int 7)]]) (.con (.int 4)))) [.ret (.con (.bl false))] []],
  .for_ (.name 3) (.list [.con (.non), .neg (.con (.int 1)), .call 7 [.con (.int 1), .var 2], .con (.str [48]), .con (.bl true), .tup [.con (.int 0)]]) [.ite (.cmp .ne (.call 1 [.con (.int 1), .con (.int 1), .var 2, .var 3]) (.tup [.con (.str [114, 101, 102, 117, 115, 101, 100]), .con (.int 2)])) [.ret (.con (.bl false))] []],
  .new 5 (.list [.con (.non), .con (.int 5), .list [], .list [.tup [.con (.int 0), .con (.int 0)]], .tup [.tup [.con (.int 0), .con (.int 0)], .tup [.con (.int 1), .con (.int 0)]], .tup [.tup [.con (.int 3), .con (.int 0)], .tup [.con (.int 0), .con (.int 0)]], .tup [.tup [.con (.int 0), .con (.int 1)]], .tup [.tup [.con (.int 1), .con (.int 2)]], .tup [.tup [.con (.int 2), .con (.int 0)]], .tup [.tup [.con (.int 3), .con (.int 3)]]]),
  .extend 5 (.list [.tup [.tup [.con (.int 4), .con (.int 0)]], .tup [.tup [.con (.int 0), .neg (.con (.int 1))]], .tup [.tup [.neg (.con (.int 1)), .con (.int 0)]], .tup [.tup [.con (.int 0), .con (.bl true)]], .tup [.tup [.con (.bl true), .con (.int 0)]], .tup [.tup [.con (.str [48]), .con (.int 0)]], .tup [.tup [.con (.int 0), .con (.int 0), .con (.int 0)]], .tup [.list [.con (.int 0), .con (.int 0)]]]),
  .for_ (.name 3) (.bin .add (.var 5) (.list [.tup [.con (.int 0), .con (.int 0)], .tup [.tup [.con (.int 3), .con (.int 0)], .tup [.con (.int 3), .con (.int 1)]]])) [.ite (.or (.cmp .isnt (.call 72 [.con (.int 1), .var 2, .var 3]) (.con (.bl false))) (.cmp .ne (.call 1 [.con (.int 2), .con (.int 1), .var 2, .var 3]) (.tup [.con (.str [114, 101, 102, 117, 115, 101, 100]), .con (.int 12)]))) [.ret (.con (.bl false))] []],
  .for_ (.name 6) (.list [.tupR [], .tupR [.tup [.con (.int 0), .con (.int 0)]], .tupR [.tup [.con (.int 1), .con (.int 1)], .tup [.con (.int 3), .con (.int 2)]], .tupR [.tup [.con (.int 0), .con (.int 0)], .tup [.con (.int 3), .con (.int 0)]]]) [.ite (.or (.cmp .isnt (.call 72 [.con (.int 1), .var 2, .var 6]) (.con (.bl true))) (.cmp .ne (.call 106 [.con (.int 1), .var 2, .call 108 [.con (.int 1), .var 2, .var 6]]) (.var 6))) [.ret (.con (.bl false))] []],
  .asg (.name 7) (.tup [.con (.int 3), .con (.int 0), .tup [.con (.int 1), .con (.int 1)]]),
  .for_ (.name 3) (.list [.con (.non), .tup [.con (.int 0), .con (.int 0), .tup []], .tup [.con (.int 3), .con (.int 0)], .tup [.con (.int 3), .con (.int 6), .tup [.con (.int 1)]]]) [.ite (.cmp .ne (.lc (.call 1 [.var 4, .var 3, .con (.non), .con (.non)]) [4] (.name 4) (.tup [.con (.int 4), .con (.int 5)]) []) (.bin .mul (.list [.tup [.con (.str [114, 101, 102, 117, 115, 101, 100]), .con (.int 0)]]) (.con (.int 2)))) [.ret (.con (.bl false))] []],
  .for_ (.name 3) (.list [.con (.non), .tup [.con (.str [101, 110, 100])], .tup [.con (.str [97, 115, 107]), .tup [.con (.int 1)], .tup []], .call 47 [.tup [.con (.int 3), .con (.int 1), .tup [.con (.int 1), .con (.int 1)]]]]) [.ite (.cmp .ne (.lc (.call 1 [.var 4, .var 7, .var 3, .con (.non)]) [4] (.name 4) (.tup [.con (.int 4), .con (.int 5)]) []) (.bin .mul (.list [.tup [.con (.str [114, 101, 102, 117, 115, 101, 100]), .con (.int 1)]]) (.con (.int 2)))) [.ret (.con (.bl false))] []],
  .for_ (.name 3) (.list [.con (.non), .neg (.con (.int 1)), .con (.int 3), .con (.str [48]), .con (.bl true)]) [.ite (.cmp .ne (.call 1 [.con (.int 4), .var 7, .call 47 [.var 7], .var 3]) (.tup [.con (.str [114, 101, 102, 117, 115, 101, 100]), .con (.int 2)])) [.ret (.con (.bl false))] []],
  .ret (.and (.cmp .eq (.call 1 [.con (.int 5), .var 7, .call 47 [.var 7], .con (.non)]) (.con (.int 2))) (.cmp .is (.call 72 [.call 8 [.var 0, .var 1, .con (.int 6)], .tup [], .tup []]) (.con (.bl true))))]⟩
-- k23
def d__law_in_twos : Def := ⟨2, 6, [
  .par [(2, true), (3, false)] [.list [], .con (.int 1)],
  .for_ (.name 4) (.rng [.bin .sub (.var 0) (.con (.int 1))]) [.asg (.name 3) (.bin .mul (.var 3) (.con (.int 2)))],
  .for_ (.name 5) (.rng [.var 0]) [.ite (.cmp .lt (.var 1) (.var 3)) [.append 2 (.tup [.var 5, .con (.int 0)])] [.asg (.name 1) (.bin .sub (.var 1) (.var 3))], .asg (.name 3) (.bin .fdiv (.var 3) (.con (.int 2)))],
  .ret (.bi .tuple [.var 2])]⟩
-- k23
def d_law_k23 : Def := ⟨1, 16, [
  .loc 1 (.list []),
  .asg (.name 2) (.bin .add (.con (.int 1)) (.call 8 [.var 0, .var 1, .con (.int 6)])),
  .par [(3, false), (4, false), (5, true)] [.bin .mul (.tup [.con (.int 1)]) (.var 2), .con (.int 1), .list [.con (.int 1), .con (.int 2)]],
  .for_ (.name 6) (.rng [.var 2]) [.asg (.name 4) (.bin .mul (.var 4) (.con (.int 2))), .append 5 (.bin .add (.idx (.var 5) (.neg (.con (.int 1)))) (.idx (.var 5) (.neg (.con (.int 2)))))],
  .asg (.name 7) (.call 8 [.var 0, .var 1, .var 4]),
  .ite (.or (.cmp .ne (.call 80 [.con (.int 0), .var 3]) (.var 4)) (.cmp .ne (.call 80 [.con (.int 1), .var 3]) (.idx (.var 5) (.var 2)))) [.ret (.con (.bl false))] [],
  .ite (.cmp .ne (.call 106 [.con (.int 0), .var 3, .var 7]) (.call 13 [.var 2, .var 7])) [.ret (.con (.bl false))] [],
  .par [(7, false), (8, true), (9, false)] [.call 8 [.var 0, .var 1, .idx (.var 5) (.var 2)], .list [], .con (.int 0)],
  .asg (.name 10) (.var 7),
  .while_ (.cmp .lt (.var 9) (.var 2)) [.asg (.name 11) (.idx (.var 5) (.bi .max [.con (.int 0), .bin .sub (.bin .sub (.var 2) (.var 9)) (.con (.int 2))])), .ite (.cmp .lt (.var 10) (.var 11)) [.append 8 (.tup [.var 9, .con (.int 0)]), .asg (.name 9) (.bin .add (.var 9) (.con (.int 2)))] [.par [(10, false), (9, false)] [.bin .sub (.var 10) (.var 11), .bin .add (.var 9) (.con (.int 1))]]],
  .ite (.cmp .ne (.call 106 [.con (.int 1), .var 3, .var 7]) (.bi .tuple [.var 8])) [.ret (.con (.bl false))] [],
  .asg (.name 12) (.bin .add (.con (.int 1)) (.call 8 [.var 0, .var 1, .con (.int 3)])),
  .asg (.name 13) (.bi .tuple [.bin .mul (.list [.var 12]) (.bi .min [.var 2, .con (.int 5)])]),
  .ite (.cmp .ne (.call 80 [.bi .len [.var 13], .var 13]) (.bin .add (.con (.int 1)) (.bi .sum [.var 13]))) [.ret (.con (.bl false))] [],
  .par [(14, false), (15, false)] [.call 8 [.var 0, .var 1, .bi .len [.var 13]], .call 8 [.var 0, .var 1, .var 12]],
  .ret (.cmp .eq (.call 108 [.bi .len [.var 13], .var 13, .tupR [.tup [.var 14, .var 15]]]) (.bin .add (.bi .sum [.slc (.var 13) [] [.var 14]]) (.var 15)))]⟩
end Mi.Df

set_option Elab.async false
set_option linter.all false
set_option maxRecDepth 100000
set_option maxHeartbeats 1000000
/-! Mi20: the laws' draws, in the small language. -/
namespace Mi
theorem run_fn {Pr : Prog} {k f : Nat} {d : Def} (h : Pr.fn f = some d) (ds : List D) (st : Store) : (run Pr (k + 1)).fn f ds st = callDef (run Pr k) d ds st := by
  show (match Pr.fn f with | some d => callDef (run Pr k) d ds st | none => .bad) = _
  rw [h]
theorem spare_loop {F : Fns} {a b : Sl} {st : Store} : ∀ (ds : List D) (s : Int) (x : Sl), (match x with | .lck _ => false | _ => true) = true → ∃ s' x', forGo (fun x env st => match bind (.name 3) x env with
      | some env => exs F [.asg (.name 2) (.bin .fdiv (.var 2) (.con (.int 1000003)))] env st
      | none => .bad) ds [a, b, .val (.int s), x] st = .next [a, b, .val (.int s'), x'] st
  | [], s, x, _ => ⟨s, x, rfl⟩
  | d :: ds, s, x, hx => by
    obtain ⟨s', x', e⟩ := spare_loop (F := F) ds (s.fdiv 1000003) (.val d) rfl
    refine ⟨s', x', ?_⟩
    rw [← e]
    cases x <;> first | rfl | cases hx
theorem plains_ints : ∀ xs : List Int, D.plains (xs.map D.int) = true
  | [] => rfl
  | x :: xs => by show (true && D.plains (xs.map D.int)) = true; rw [plains_ints xs]; rfl
theorem depths_ints : ∀ xs : List Int, D.depths (xs.map D.int) = 0
  | [] => rfl
  | x :: xs => by show max 0 (D.depths (xs.map D.int)) = 0; rw [depths_ints xs]; rfl
theorem ok_scr (xs : List Int) : okData (.scr (xs.map D.int)) = true := by
  show (D.plains (xs.map D.int) && Nat.ble (D.depths (xs.map D.int) + 1) 60) = true
  rw [plains_ints, depths_ints]; rfl
theorem ok_tup (xs : List Int) : okData (.tup (xs.map D.int)) = true := ok_scr xs
theorem ok_lst (xs : List Int) : okData (.lst (xs.map D.int)) = true := ok_scr xs
theorem trunc_eq {n : Nat} {st : Store} (h : st.length = n) (d : D) : trunc n d st = st := by
  unfold trunc
  rw [h, Nat.beq_refl]
  rfl
theorem trunc_same (st : Store) (d : D) : trunc st.length d st = st := by
  unfold trunc
  rw [Nat.beq_refl]
  rfl
theorem ixN_nat {n i : Nat} (h : i < n) : ixN n (i : Int) = some i := by
  unfold ixN
  rw [if_pos (Int.natCast_nonneg i), if_pos (by exact_mod_cast h)]
  rfl
theorem get_ints {xs : List Int} {i : Nat} (h : i < xs.length) : ∃ v, (xs.map D.int)[i]? = some (.int v) := ⟨xs[i], by rw [List.getElem?_map, List.getElem?_eq_getElem h]; rfl⟩
theorem fmod_nat (a b : Nat) : Int.fmod (a : Int) (b : Int) = ((a % b : Nat) : Int) := by
  rw [Int.fmod_eq_emod_of_nonneg _ (Int.natCast_nonneg b)]; rfl
theorem fdiv_nat (a b : Nat) : Int.fdiv (a : Int) (b : Int) = ((a / b : Nat) : Int) := by
  rw [Int.fdiv_eq_ediv_of_nonneg _ (Int.natCast_nonneg b)]; rfl
theorem exs_next {F : Fns} {s : S} {ss : List S} {env env' : Env} {st st' : Store} (h : ex F s env st = .next env' st') : exs F (s :: ss) env st = exs F ss env' st' := by
  show (match ex F s env st with | .next env st => exs F ss env st | r => r) = _
  rw [h]
theorem exs_ret {F : Fns} {s : S} {ss : List S} {env : Env} {st st' : Store} {d : D} (h : ex F s env st = .ret d st') : exs F (s :: ss) env st = .ret d st' := by
  unfold exs; rw [h]
theorem exs_nil {F : Fns} {env : Env} {st : Store} : exs F [] env st = .next env st := rfl
theorem call_ret {F : Fns} {d : Def} {ds : List D} {st st' : Store} {r : D} (hl : ds.length = d.pars) (h : exs F d.body (start d ds) st = .ret r st') : callDef F d ds st = .ok r (trunc st.length r st') := by
  unfold callDef; rw [hl, if_pos (beq_self_eq_true _), h]
theorem call_next {F : Fns} {d : Def} {ds : List D} {st st' : Store} {env : Env} (hl : ds.length = d.pars) (h : exs F d.body (start d ds) st = .next env st') : callDef F d ds st = .ok .non (trunc st.length .non st') := by
  unfold callDef; rw [hl, if_pos (beq_self_eq_true _), h]
theorem ex_for {F : Fns} {t : T} {it : E} {body : List S} {env : Env} {st st' : Store} {d : D} {xs : List D} (h : ev F .walk it env st = .ok d st') (hi : iterOf d = some xs) : ex F (.for_ t it body) env st = forGo (fun x env st => match bind t x env with
      | some env => exs F body env st
      | none => .bad) xs env st' := by
  unfold ex; rw [h]
  simp only [R.toS, hi]
  try rfl
theorem fit0 : fit 0 = true := rfl
theorem fit1 : fit 1 = true := rfl
theorem fit2 : fit 2 = true := rfl
theorem fit3 : fit 3 = true := rfl
theorem fit4 : fit 4 = true := rfl
theorem fit5 : fit 5 = true := rfl
theorem fit6 : fit 6 = true := rfl
theorem fit7 : fit 7 = true := rfl
theorem fit8 : fit 8 = true := rfl
theorem fit9 : fit 9 = true := rfl
theorem okE : okData (.lst []) = true := rfl
/-- a cell of the script -/
theorem cell_ok {Pr : Prog} (h : Pr.fn Df.n__law_cell_at = some Df.d__law_cell_at) (k : Nat) (xs : List Int) (hx : xs.length ≤ 63) (n : Nat) (st : Store) : ∃ i : Int, (run Pr (k + 1)).fn Df.n__law_cell_at [.scr (xs.map D.int), .int n] st = .ok (.int i) st := by
  rw [run_fn h]
  by_cases c : n < xs.length
  · refine ⟨xs[n], ?_⟩
    simp [callDef, Df.d__law_cell_at, start, exs, ex, ev, evs, R.bind, R.toS, R.toX, R.of, biF, cmp, res, idx, c, ixN_nat c, trunc_same]
  · by_cases c0 : xs = []
    · subst c0
      refine ⟨0, ?_⟩
      have hd : ¬ ((n : Int) < 0) := by omega
      simp [hd, callDef, Df.d__law_cell_at, start, exs, ex, ev, evs, R.bind, R.toS, R.toX, R.of, biF, cmp, res, idx, trunc_same, okData, D.plain, D.plains, D.depth, D.depths, D.eqv, D.eqvs, fit]
    · have hp : 0 < xs.length := List.length_pos_iff.mpr c0
      have hm : n % xs.length < xs.length := Nat.mod_lt _ hp
      have he : D.eqv (.scr (xs.map D.int)) (.lst []) = false := by
        cases xs with
        | nil => exact absurd rfl c0
        | cons x xs => rfl
      have hok := ok_scr xs
      have hmin : ∃ m : Nat, m ≤ 60 ∧ (if (60 : Int) < ((n / xs.length : Nat) : Int) then (60 : Int) else ((n / xs.length : Nat) : Int)) = (m : Int) := by
        by_cases q : 60 < n / xs.length
        · exact ⟨60, Nat.le_refl _, by rw [if_pos (by exact_mod_cast q)]; rfl⟩
        · exact ⟨n / xs.length, by omega, by rw [if_neg (by exact_mod_cast q)]⟩
      obtain ⟨m, hm60, hmm⟩ := hmin
      obtain ⟨s', x', eloop⟩ := spare_loop (F := run Pr k) (a := .val (.scr (xs.map D.int))) (b := .val (.int n)) (st := st) (rngL 0 1 m) (xs[n % xs.length]) .emp rfl
      refine ⟨xs[n % xs.length] * 31 + n + s' * 101, ?_⟩
      have b1 : Nat.blt xs.length 1073741824 = true := Nat.ble_eq_true_of_le (by omega)
      have b2 : inI 62 (m : Int) = true := Nat.ble_eq_true_of_le (by simp; omega)
      have b3 : fit m = true := Nat.ble_eq_true_of_le (by unfold line; omega)
      have hpi : ((xs.length : Nat) : Int) ≠ 0 := by omega
      have hix : ixN xs.length ((n : Int) % (xs.length : Int)) = some (n % xs.length) := ixN_nat hm
      have hmm2 : (if (60 : Int) < (n : Int) / (xs.length : Int) then (60 : Int) else (n : Int) / (xs.length : Int)) = (m : Int) := hmm
      have hg : xs[n % xs.length]? = some xs[n % xs.length] := List.getElem?_eq_getElem hm
      have t1 : inI 64 31 = true := by decide
      have t2 : inI 64 101 = true := by decide
      rw [call_ret (r := .int (xs[n % xs.length] * 31 + n + s' * 101)) (st' := st) rfl ?_, trunc_same]
      show exs _ _ [.val (.scr (xs.map D.int)), .val (.int n), .emp, .emp] st = _
      unfold Df.d__law_cell_at
      rw [exs_next (env' := [.val (.scr (xs.map D.int)), .val (.int n), .emp, .emp]) (st' := st) (by simp [Mi.ex, Mi.exs, Mi.ev, Mi.evs, Mi.R.bind, Mi.R.toS, Mi.R.toSs, Mi.R.toX, Mi.R.of, Mi.biF, Mi.cmp, Mi.res, Mi.idx, Mi.bin, Mi.iterOf, Mi.rngF, Mi.bind, Mi.binds, Mi.freeAt, Mi.okE, Mi.fit0, Mi.fit1, Mi.fit2, Mi.fit3, Mi.fit4, Mi.fit5, Mi.fit6, Mi.fit7, Mi.fit8, Mi.fit9, c])]
      rw [exs_next (env' := [.val (.scr (xs.map D.int)), .val (.int n), .emp, .emp]) (st' := st) (by simp [Mi.ex, Mi.exs, Mi.ev, Mi.evs, Mi.R.bind, Mi.R.toS, Mi.R.toSs, Mi.R.toX, Mi.R.of, Mi.biF, Mi.cmp, Mi.res, Mi.idx, Mi.bin, Mi.iterOf, Mi.rngF, Mi.bind, Mi.binds, Mi.freeAt, Mi.okE, Mi.fit0, Mi.fit1, Mi.fit2, Mi.fit3, Mi.fit4, Mi.fit5, Mi.fit6, Mi.fit7, Mi.fit8, Mi.fit9, hok, he])]
      rw [exs_next (env' := [.val (.scr (xs.map D.int)), .val (.int n), .val (.int xs[n % xs.length]), .emp]) (st' := st) (by simp [Mi.ex, Mi.exs, Mi.ev, Mi.evs, Mi.R.bind, Mi.R.toS, Mi.R.toSs, Mi.R.toX, Mi.R.of, Mi.biF, Mi.cmp, Mi.res, Mi.idx, Mi.bin, Mi.iterOf, Mi.rngF, Mi.bind, Mi.binds, Mi.freeAt, Mi.okE, Mi.fit0, Mi.fit1, Mi.fit2, Mi.fit3, Mi.fit4, Mi.fit5, Mi.fit6, Mi.fit7, Mi.fit8, Mi.fit9, c0, fmod_nat, hix, hg])]
      rw [exs_next (env' := [.val (.scr (xs.map D.int)), .val (.int n), .val (.int s'), x']) (st' := st) (by rw [ex_for (d := .lst (rngL 0 1 m)) (st' := st) (by simp [Mi.ex, Mi.exs, Mi.ev, Mi.evs, Mi.R.bind, Mi.R.toS, Mi.R.toSs, Mi.R.toX, Mi.R.of, Mi.biF, Mi.cmp, Mi.res, Mi.idx, Mi.bin, Mi.iterOf, Mi.rngF, Mi.bind, Mi.binds, Mi.freeAt, Mi.okE, Mi.fit0, Mi.fit1, Mi.fit2, Mi.fit3, Mi.fit4, Mi.fit5, Mi.fit6, Mi.fit7, Mi.fit8, Mi.fit9, c0, fdiv_nat, b1, b2, b3, hmm2]) rfl]; exact eloop)]
      exact exs_ret (by simp [Mi.ex, Mi.exs, Mi.ev, Mi.evs, Mi.R.bind, Mi.R.toS, Mi.R.toSs, Mi.R.toX, Mi.R.of, Mi.biF, Mi.cmp, Mi.res, Mi.idx, Mi.bin, Mi.iterOf, Mi.rngF, Mi.bind, Mi.binds, Mi.freeAt, Mi.okE, Mi.fit0, Mi.fit1, Mi.fit2, Mi.fit3, Mi.fit4, Mi.fit5, Mi.fit6, Mi.fit7, Mi.fit8, Mi.fit9, c0, fmod_nat, hix, hg, t1, t2])
theorem fmod_pos_nat {a : Int} {b : Nat} (hb : 0 < b) : ∃ r : Nat, r < b ∧ a.fmod (b : Int) = (r : Int) := by
  have hb' : (0 : Int) < (b : Int) := by omega
  have h1 := Int.fmod_nonneg_of_pos a hb'
  have h2 := Int.fmod_lt_of_pos a hb'
  exact ⟨(a.fmod b).toNat, by omega, by omega⟩
theorem mixed_ok {Pr : Prog} (h1 : Pr.fn Df.n__law_mixed = some Df.d__law_mixed) (h : Pr.fn Df.n__law_cell_at = some Df.d__law_cell_at) (k : Nat) (xs : List Int) (hx : xs.length ≤ 63) (n b : Nat) (hb : 0 < b) (hn : n ≤ 16777216) (st : Store) :
    ∃ r : Nat, r < b ∧ (run Pr (k + 2)).fn Df.n__law_mixed [.scr (xs.map D.int), .int n, .int b] st = .ok (.int r) st := by
  obtain ⟨i, e⟩ := cell_ok h k xs hx n st
  obtain ⟨q, hq, eq⟩ := fmod_pos_nat (a := i * 1103515245 + 7919 * n + 12345) (b := 2147483647) (by decide)
  obtain ⟨r, hr, er⟩ := fmod_pos_nat (a := (((q : Int) ^ 5).fmod 2147483647).fmod 999983) (b := b) hb
  refine ⟨r, hr, ?_⟩
  rw [run_fn h1, call_ret (r := .int r) (st' := st) rfl ?_, trunc_same]
  show exs _ _ [.val (.scr (xs.map D.int)), .val (.int n), .val (.int b), .emp] st = _
  unfold Df.d__law_mixed
  have t1 : inI 64 1103515245 = true := by decide
  have t2 : inI 64 7919 = true := by decide
  have t3 : inI 64 (q : Int) = true := Nat.ble_eq_true_of_le (by simp; omega)
  have e' : (run Pr (k + 1)).fn 5 [.scr (xs.map D.int), .int n] st = .ok (.int i) st := e
  have eq' : (i * 1103515245 + 7919 * (n : Int) + 12345).fmod 2147483647 = q := eq
  have hb0 : ¬ b = 0 := by omega
  rw [exs_next (env' := [.val (.scr (xs.map D.int)), .val (.int n), .val (.int b), .val (.int q)]) (st' := st) (by simp [Mi.ex, Mi.exs, Mi.ev, Mi.evs, Mi.R.bind, Mi.R.toS, Mi.R.toSs, Mi.R.toX, Mi.R.of, Mi.biF, Mi.cmp, Mi.res, Mi.idx, Mi.bin, Mi.iterOf, Mi.rngF, Mi.bind, Mi.binds, Mi.freeAt, Mi.okE, Mi.fit0, Mi.fit1, Mi.fit2, Mi.fit3, Mi.fit4, Mi.fit5, Mi.fit6, Mi.fit7, Mi.fit8, Mi.fit9, e', t1, t2, eq'])]
  refine exs_ret ?_
  simp [Mi.ex, Mi.exs, Mi.ev, Mi.evs, Mi.R.bind, Mi.R.toS, Mi.R.toSs, Mi.R.toX, Mi.R.of, Mi.biF, Mi.cmp, Mi.res, Mi.idx, Mi.bin, Mi.iterOf, Mi.rngF, Mi.bind, Mi.binds, Mi.freeAt, Mi.okE, Mi.fit0, Mi.fit1, Mi.fit2, Mi.fit3, Mi.fit4, Mi.fit5, Mi.fit6, Mi.fit7, Mi.fit8, Mi.fit9, t3, hb0, er]
theorem draw_ok {Pr : Prog} (h2 : Pr.fn Df.n__law_draw = some Df.d__law_draw) (h1 : Pr.fn Df.n__law_mixed = some Df.d__law_mixed) (h : Pr.fn Df.n__law_cell_at = some Df.d__law_cell_at) (k : Nat) (xs : List Int) (hx : xs.length ≤ 63) (b : Nat) (hb : 0 < b) (st : Store) (t : Nat) (ys : List D) (ht : st[t]? = some (.lst ys)) (hy : ys.length < 16777216) :
    ∃ r : Nat, r < b ∧ (run Pr (k + 3)).fn Df.n__law_draw [.scr (xs.map D.int), .loc t, .int b] st = .ok (.int r) (st.set t (.lst (ys ++ [.int 0]))) := by
  obtain ⟨r, hr, e⟩ := mixed_ok h1 h k xs hx (ys.length + 1) b hb (by omega) (st.set t (.lst (ys ++ [.int 0])))
  refine ⟨r, hr, ?_⟩
  rw [run_fn h2, call_ret (r := .int r) (st' := st.set t (.lst (ys ++ [.int 0]))) rfl ?_, trunc_eq (by simp)]
  show exs _ _ [.val (.scr (xs.map D.int)), .val (.loc t), .val (.int b)] st = _
  unfold Df.d__law_draw
  have f1 : fit (ys.length + 1) = true := Nat.ble_eq_true_of_le (by unfold line; omega)
  have hl : t < st.length := (List.getElem?_eq_some_iff.mp ht).1
  rw [exs_next (env' := [.val (.scr (xs.map D.int)), .val (.loc t), .val (.int b)]) (st' := st.set t (.lst (ys ++ [.int 0]))) (by simp [Mi.ex, Mi.exs, Mi.ev, Mi.evs, Mi.R.bind, Mi.R.toS, Mi.R.toSs, Mi.R.toX, Mi.R.of, Mi.biF, Mi.cmp, Mi.res, Mi.idx, Mi.bin, Mi.iterOf, Mi.rngF, Mi.bind, Mi.binds, Mi.freeAt, Mi.okE, Mi.fit0, Mi.fit1, Mi.fit2, Mi.fit3, Mi.fit4, Mi.fit5, Mi.fit6, Mi.fit7, Mi.fit8, Mi.fit9, lstAt, ht, f1])]
  refine exs_ret ?_
  have e' : (run Pr (k + 2)).fn 18 [.scr (xs.map D.int), .int ((ys.length : Int) + 1), .int b] (st.set t (.lst (ys ++ [.int 0]))) = .ok (.int r) (st.set t (.lst (ys ++ [.int 0]))) := e
  simp [Mi.ex, Mi.exs, Mi.ev, Mi.evs, Mi.R.bind, Mi.R.toS, Mi.R.toSs, Mi.R.toX, Mi.R.of, Mi.biF, Mi.cmp, Mi.res, Mi.idx, Mi.bin, Mi.iterOf, Mi.rngF, Mi.bind, Mi.binds, Mi.freeAt, Mi.okE, Mi.fit0, Mi.fit1, Mi.fit2, Mi.fit3, Mi.fit4, Mi.fit5, Mi.fit6, Mi.fit7, Mi.fit8, Mi.fit9, hl, e']
section
variable {F : Fns} {md : Md} {a b t : E} {ba bb : List S} {env : Env} {st st1 : Store} {d : D} {is : List E}
theorem ev_and_t (h : ev F .read a env st = .ok (.bl true) st1) : ev F md (.and a b) env st = ev F .kept b env st1 := by
  rw [ev, h]; rfl
theorem ev_and_f (h : ev F .read a env st = .ok (.bl false) st1) : ev F md (.and a b) env st = .ok (.bl false) st1 := by
  rw [ev, h]; rfl
theorem ev_or_t (h : ev F .read a env st = .ok (.bl true) st1) : ev F md (.or a b) env st = .ok (.bl true) st1 := by
  rw [ev, h]; rfl
theorem ev_or_f (h : ev F .read a env st = .ok (.bl false) st1) : ev F md (.or a b) env st = ev F .kept b env st1 := by
  rw [ev, h]; rfl
theorem ev_not {x : Bool} (h : ev F .read a env st = .ok (.bl x) st1) : ev F md (.not a) env st = .ok (.bl (!x)) st1 := by
  rw [ev, h]; rfl
theorem ex_ret (h : ev F .kept a env st = .ok d st1) : ex F (.ret a) env st = .ret d st1 := by
  rw [ex, h]; rfl
theorem ex_ite_t (h : ev F .read t env st = .ok (.bl true) st1) : ex F (.ite t ba bb) env st = exs F ba env st1 := by
  rw [ex, h]; rfl
theorem ex_ite_f (h : ev F .read t env st = .ok (.bl false) st1) : ex F (.ite t ba bb) env st = exs F bb env st1 := by
  rw [ex, h]; rfl
theorem ev_bi1 {bi : Bi} {r : D} (h : ev F .read a env st = .ok d st1) (hr : biF bi [res st1 d] = some r) : ev F md (.bi bi [a]) env st = .ok r st1 := by
  rw [ev, evs, h]
  show R.of (biF bi [res st1 d]) st1 = _
  rw [hr]
  rfl
theorem ev_cmp {o : Cm} {x y r : D} {st2 : Store} (h1 : ev F .read a env st = .ok x st1) (h2 : ev F .read b env st1 = .ok y st2) (h : cmp o (res st2 x) (res st2 y) = some r) : ev F md (.cmp o a b) env st = .ok r st2 := by
  rw [ev, h1]
  show (ev F .read b env st1).bind _ = _
  rw [h2]
  show R.of (cmp o (res st2 x) (res st2 y)) st2 = _
  rw [h]
  rfl
end
end Mi

set_option Elab.async false
set_option linter.all false
set_option maxRecDepth 100000
set_option maxHeartbeats 1000000
/-! Mi21: how many things can be told apart: most_of and its like. -/
namespace Mi
/-- the counts of a game's beats and of all that is left behind each of them -/
def cntL (L : Nat) : List Nat → List Nat
  | [] => [1]
  | b :: bs => ((cntL L bs).headD 1 + b * (cntL L bs).getD L 1) :: cntL L bs
def cnt (L : Nat) (bs : List Nat) : Nat := (cntL L bs).headD 1
def nds (l : List Nat) : List D := l.map fun n : Nat => D.int (n : Int)
theorem nds_len (l : List Nat) : (nds l).length = l.length := List.length_map ..
theorem nds_get (l : List Nat) (i : Nat) : (nds l)[i]? = (l[i]?).map fun n : Nat => D.int (n : Int) := List.getElem?_map ..
theorem nds_set (l : List Nat) (i v : Nat) : (nds l).set i (.int v) = nds (l.set i v) := by
  unfold nds
  rw [List.map_set]
theorem nds_app (a b : List Nat) : nds a ++ nds b = nds (a ++ b) := (List.map_append ..).symm
def dn : Nat → List D
  | 0 => []
  | j + 1 => .int (j : Int) :: dn j
theorem rngL_dn : ∀ n : Nat, rngL ((n : Int) - 1) (-1) n = dn n
  | 0 => rfl
  | n + 1 => by
    show D.int (((n + 1 : Nat) : Int) - 1) :: rngL (((n + 1 : Nat) : Int) - 1 + -1) (-1) n = .int (n : Int) :: dn n
    have e1 : ((n + 1 : Nat) : Int) - 1 = (n : Int) := by omega
    have e2 : ((n + 1 : Nat) : Int) - 1 + -1 = (n : Int) - 1 := by omega
    rw [e2, rngL_dn n, e1]
theorem rngL_snoc : ∀ (n : Nat) (a : Int), rngL a 1 (n + 1) = rngL a 1 n ++ [.int (a + n)]
  | 0, a => by show [D.int a] = [] ++ [.int (a + ((0 : Nat) : Int))]; simp
  | n + 1, a => by
    show D.int a :: rngL (a + 1) 1 (n + 1) = (.int a :: rngL (a + 1) 1 n) ++ [.int (a + ((n + 1 : Nat) : Int))]
    rw [rngL_snoc n (a + 1)]
    have : a + 1 + (n : Int) = a + ((n + 1 : Nat) : Int) := by omega
    rw [this]
    rfl
theorem rngL_rev : ∀ n : Nat, (rngL 0 1 n).reverse = dn n
  | 0 => rfl
  | n + 1 => by
    rw [rngL_snoc, List.reverse_append, rngL_rev n]
    show [D.int (0 + (n : Int))] ++ dn n = .int (n : Int) :: dn n
    rw [Int.zero_add]
    rfl
theorem inI_nat {k n : Nat} (h : n < 2 ^ k) : inI k (n : Int) = true := Nat.ble_eq_true_of_le (show n + 1 ≤ 2 ^ k from h)
abbrev cntBody : List S := [.setix 2 (.var 3) (.bin .add (.idx (.var 2) (.bin .add (.var 3) (.con (.int 1)))) (.bin .mul (.idx (.var 1) (.var 3)) (.idx (.var 2) (.bin .add (.bin .add (.var 3) (.con (.int 1))) (.var 0)))))]
theorem cnt_turn {F : Fns} {L j u v b : Nat} {bs l : List Nat} {st : Store} (hu : l[j + 1]? = some u) (hv : l[j + 1 + L]? = some v) (hb : bs[j]? = some b) (hb3 : b ≤ 3) :
    exs F cntBody [.val (.int L), .val (.tup (nds bs)), .own (.lst (nds l)), .val (.int j)] st = .next [.val (.int L), .val (.tup (nds bs)), .own (.lst (nds (l.set j (u + b * v)))), .val (.int j)] st := by
  have l1 := (List.getElem?_eq_some_iff.mp hu).1
  have l2 := (List.getElem?_eq_some_iff.mp hv).1
  have l3 := (List.getElem?_eq_some_iff.mp hb).1
  have x1 : ixN l.length ((j : Int) + 1) = some (j + 1) := ixN_nat l1
  have x2 : ixN l.length ((j : Int) + 1 + (L : Int)) = some (j + 1 + L) := ixN_nat l2
  have x3 : ixN bs.length (j : Int) = some j := ixN_nat l3
  have x4 : ixN l.length (j : Int) = some j := ixN_nat (by omega)
  have t : inI 64 (b : Int) = true := inI_nat (by omega)
  have hs : nds (l.set j (u + b * v)) = (nds l).set j (.int ((u : Int) + (b : Int) * (v : Int))) := (nds_set l j (u + b * v)).symm
  rw [hs]
  simp [Mi.ex, Mi.exs, Mi.ev, Mi.evs, Mi.R.bind, Mi.R.toS, Mi.R.toSs, Mi.R.toX, Mi.R.of, Mi.biF, Mi.cmp, Mi.res, Mi.idx, Mi.bin, Mi.iterOf, Mi.rngF, Mi.bind, Mi.binds, Mi.freeAt, Mi.okE, Mi.fit0, Mi.fit1, Mi.fit2, Mi.fit3, Mi.fit4, Mi.fit5, Mi.fit6, Mi.fit7, Mi.fit8, Mi.fit9, nds_len, x1, x2, x3, x4, nds_get, hu, hv, hb, t]
theorem cntL_ne (L : Nat) (bs : List Nat) : ∃ h t, cntL L bs = h :: t := by
  cases bs with
  | nil => exact ⟨1, [], rfl⟩
  | cons b bs => exact ⟨_, _, rfl⟩
theorem cntL_len (L : Nat) : ∀ bs : List Nat, (cntL L bs).length = bs.length + 1
  | [] => rfl
  | b :: bs => by show (cntL L bs).length + 1 = bs.length + 1 + 1; rw [cntL_len L bs]
theorem bind_name {i : Nat} {d : D} {env : Env} (h : i < env.length) (hl : ∀ x, env[i]? ≠ some (.lck x)) : bind (.name i) d env = some (env.set i (.val d)) := by
  unfold bind
  rw [if_pos h]
  split
  · rename_i x e
    exact absurd e (hl x)
  · rfl
def nolck : Sl → Bool
  | .lck _ => false
  | _ => true
theorem bind3 {a b c x : Sl} {d : D} (h : nolck x = true) : bind (.name 3) d [a, b, c, x] = some [a, b, c, .val d] := by
  cases x <;> first | rfl | cases h
theorem cnt_loop {F : Fns} {L M : Nat} {bs : List Nat} {st : Store} (hM : L ≤ M) (hb : ∀ b ∈ bs, b ≤ 3) : ∀ (j : Nat) (x : Sl), nolck x = true → j ≤ bs.length →
    ∃ x', forGo (fun x env st => match bind (.name 3) x env with
      | some env => exs F cntBody env st
      | none => .bad) (dn j) [.val (.int L), .val (.tup (nds bs)), .own (.lst (nds (List.replicate j 1 ++ (cntL L (bs.drop j) ++ List.replicate M 1)))), x] st =
      .next [.val (.int L), .val (.tup (nds bs)), .own (.lst (nds (cntL L bs ++ List.replicate M 1))), x'] st
  | 0, x, _, _ => ⟨x, rfl⟩
  | j + 1, x, hx, hj => by
    obtain ⟨h, t, er⟩ := cntL_ne L (bs.drop (j + 1))
    have hjl : j < bs.length := hj
    have eb : bs[j]? = some bs[j] := List.getElem?_eq_getElem hjl
    have ed : bs.drop j = bs[j] :: bs.drop (j + 1) := List.drop_eq_getElem_cons hjl
    have hu : (List.replicate (j + 1) 1 ++ (cntL L (bs.drop (j + 1)) ++ List.replicate M 1))[j + 1]? = some ((cntL L (bs.drop (j + 1))).headD 1) := by
      rw [List.getElem?_append_right (by simp), er]
      simp
    have hv : (List.replicate (j + 1) 1 ++ (cntL L (bs.drop (j + 1)) ++ List.replicate M 1))[j + 1 + L]? = some ((cntL L (bs.drop (j + 1))).getD L 1) := by
      rw [List.getElem?_append_right (by first | (simp; done) | (simp; omega))]
      have e1 : j + 1 + L - (List.replicate (j + 1) 1 : List Nat).length = L := by simp
      rw [e1]
      by_cases c : L < (cntL L (bs.drop (j + 1))).length
      · rw [List.getElem?_append_left c, List.getElem?_eq_getElem c, List.getD_eq_getElem?_getD, List.getElem?_eq_getElem c]
        rfl
      · rw [List.getElem?_append_right (by omega), List.getElem?_replicate, if_pos, List.getD_eq_getElem?_getD, List.getElem?_eq_none (by omega)]
        · rfl
        · have := cntL_len L (bs.drop (j + 1))
          omega
    have turn := cnt_turn (F := F) (st := st) hu hv eb (hb _ (List.getElem_mem hjl))
    obtain ⟨x', e⟩ := cnt_loop hM hb j (.val (.int j)) rfl (by omega)
    refine ⟨x', ?_⟩
    rw [← e]
    show (match (match bind (.name 3) (.int (j : Int)) [.val (.int L), .val (.tup (nds bs)), .own (.lst (nds (List.replicate (j + 1) 1 ++ (cntL L (bs.drop (j + 1)) ++ List.replicate M 1)))), x] with
      | some env => exs F cntBody env st
      | none => .bad) with
      | .next env st => forGo _ (dn j) env st
      | r => r) = _
    rw [bind3 hx]
    show (match exs F cntBody _ st with
      | .next env st => forGo _ (dn j) env st
      | r => r) = _
    rw [turn]
    have es : (List.replicate (j + 1) 1 ++ (cntL L (bs.drop (j + 1)) ++ List.replicate M 1)).set j ((cntL L (bs.drop (j + 1))).headD 1 + bs[j] * (cntL L (bs.drop (j + 1))).getD L 1) = List.replicate j 1 ++ (cntL L (bs.drop j) ++ List.replicate M 1) := by
      rw [ed, List.replicate_succ', List.append_assoc, List.set_append_right _ _ (by simp)]
      simp [cntL]
    rw [es]
theorem flat1 (d : D) (n : Nat) : (List.replicate n [d]).flatten = List.replicate n d := by
  induction n with
  | zero => rfl
  | succ n ih => rw [List.replicate_succ, List.flatten_cons, ih]; rfl
theorem nds_rep (n v : Nat) : List.replicate n (D.int (v : Int)) = nds (List.replicate n v) := by
  unfold nds
  rw [List.map_replicate]
theorem idx0 {l : List Nat} {v : Nat} (h : l[0]? = some v) : idx (.lst (nds l)) (.int 0) = some (.int v) := by
  have l1 := (List.getElem?_eq_some_iff.mp h).1
  have x1 : ixN l.length ((0 : Nat) : Int) = some 0 := ixN_nat l1
  show (match ixN (nds l).length (0 : Int) with | some n => (nds l)[n]? | none => none) = _
  rw [nds_len]
  have x2 : ixN l.length (0 : Int) = some 0 := x1
  rw [x2]
  show (nds l)[0]? = _
  rw [nds_get, h]
  rfl
theorem cnt_head (L : Nat) (bs : List Nat) (l : List Nat) : (cntL L bs ++ l)[0]? = some (cnt L bs) := by
  obtain ⟨h, t, e⟩ := cntL_ne L bs
  unfold cnt
  rw [e]
  rfl
theorem start_list (n M L : Nat) : List.replicate (n + M + 1) 1 = List.replicate n 1 ++ (cntL L [] ++ List.replicate M 1) := by
  show _ = List.replicate n 1 ++ (1 :: List.replicate M 1)
  rw [← List.replicate_succ, List.replicate_append_replicate]
  rfl
theorem most_of_ok {Pr : Prog} (h : Pr.fn Df.n_most_of = some Df.d_most_of) (k L : Nat) (bs : List Nat) (hb : ∀ b ∈ bs, b ≤ 3) (hl : L ≤ 1000) (hn : bs.length ≤ 1000) (st : Store) : (run Pr (k + 1)).fn Df.n_most_of [.int L, .tup (nds bs)] st = .ok (.int (cnt L bs)) st := by
  rw [run_fn h, call_ret (r := .int (cnt L bs)) (st' := st) rfl ?_, trunc_same]
  show exs _ _ [.val (.int L), .val (.tup (nds bs)), .emp, .emp] st = _
  unfold Df.d_most_of
  obtain ⟨x', eloop⟩ := cnt_loop (F := run Pr k) (M := L) (st := st) (Nat.le_refl L) hb bs.length .emp rfl (Nat.le_refl _)
  rw [List.drop_length, ← start_list] at eloop
  have b1 : inI 62 (((bs.length + L + 1 : Nat) : Int)) = true := inI_nat (by omega)
  have b2 : fit (bs.length + L + 1) = true := Nat.ble_eq_true_of_le (by unfold line; omega)
  have b1' : inI 62 ((bs.length : Int) + (L : Int) + 1) = true := b1
  have e1 : ((bs.length : Int) + (L : Int) + 1).toNat = bs.length + L + 1 := by omega
  rw [exs_next (env' := [.val (.int L), .val (.tup (nds bs)), .own (.lst (nds (List.replicate (bs.length + L + 1) 1))), .emp]) (st' := st) (by
    rw [← nds_rep]
    simp [Mi.ex, Mi.exs, Mi.ev, Mi.evs, Mi.R.bind, Mi.R.toS, Mi.R.toSs, Mi.R.toX, Mi.R.of, Mi.biF, Mi.cmp, Mi.res, Mi.idx, Mi.bin, Mi.iterOf, Mi.rngF, Mi.bind, Mi.binds, Mi.freeAt, Mi.okE, Mi.fit0, Mi.fit1, Mi.fit2, Mi.fit3, Mi.fit4, Mi.fit5, Mi.fit6, Mi.fit7, Mi.fit8, Mi.fit9, nds_len, b1', e1, b2, flat1])]
  have b3 : inI 62 ((bs.length : Int) - 1) = true := Nat.ble_eq_true_of_le (by show ((bs.length : Int) - 1).natAbs + 1 ≤ 2 ^ 62; omega)
  have b4 : fit bs.length = true := Nat.ble_eq_true_of_le (by unfold line; omega)
  have b5 : inI 62 (-1) = true := by decide
  have e2 : ((bs.length : Int) - 1 - -1).toNat = bs.length := by omega
  rw [exs_next (env' := [.val (.int L), .val (.tup (nds bs)), .own (.lst (nds (cntL L bs ++ List.replicate L 1))), x']) (st' := st) (by
    rw [ex_for (d := .lst (dn bs.length)) (st' := st) (by
      rw [← rngL_dn]
      simp [Mi.ex, Mi.exs, Mi.ev, Mi.evs, Mi.R.bind, Mi.R.toS, Mi.R.toSs, Mi.R.toX, Mi.R.of, Mi.biF, Mi.cmp, Mi.res, Mi.idx, Mi.bin, Mi.iterOf, Mi.rngF, Mi.bind, Mi.binds, Mi.freeAt, Mi.okE, Mi.fit0, Mi.fit1, Mi.fit2, Mi.fit3, Mi.fit4, Mi.fit5, Mi.fit6, Mi.fit7, Mi.fit8, Mi.fit9, nds_len, b3, b4, b5, neg, e2]) rfl]
    exact eloop)]
  refine exs_ret ?_
  have := idx0 (cnt_head L bs (List.replicate L 1))
  simp [ex, ev, R.bind, R.toS, R.toX, R.of, res, this]
theorem count_ok {Pr : Prog} (h : Pr.fn Df.n__law_count = some Df.d__law_count) (k L : Nat) (bs : List Nat) (hb : ∀ b ∈ bs, b ≤ 3) (hl : L ≤ 1000) (hn : bs.length ≤ 1000) (st : Store) : (run Pr (k + 1)).fn Df.n__law_count [.int L, .tup (nds bs)] st = .ok (.int (cnt L bs)) st := by
  rw [run_fn h, call_ret (r := .int (cnt L bs)) (st' := st) rfl ?_, trunc_same]
  show exs _ _ [.val (.int L), .val (.tup (nds bs)), .emp, .emp] st = _
  unfold Df.d__law_count
  obtain ⟨x', eloop⟩ := cnt_loop (F := run Pr k) (M := L + 1) (st := st) (Nat.le_succ L) hb bs.length .emp rfl (Nat.le_refl _)
  rw [List.drop_length, ← start_list] at eloop
  have b1' : inI 62 ((bs.length : Int) + (L : Int) + 2) = true := inI_nat (n := bs.length + L + 2) (by omega)
  have b2 : fit (bs.length + (L + 1) + 1) = true := Nat.ble_eq_true_of_le (by unfold line; omega)
  have e1 : ((bs.length : Int) + (L : Int) + 2).toNat = bs.length + (L + 1) + 1 := by omega
  rw [exs_next (env' := [.val (.int L), .val (.tup (nds bs)), .own (.lst (nds (List.replicate (bs.length + (L + 1) + 1) 1))), .emp]) (st' := st) (by
    rw [← nds_rep]
    simp [Mi.ex, Mi.exs, Mi.ev, Mi.evs, Mi.R.bind, Mi.R.toS, Mi.R.toSs, Mi.R.toX, Mi.R.of, Mi.biF, Mi.cmp, Mi.res, Mi.idx, Mi.bin, Mi.iterOf, Mi.rngF, Mi.bind, Mi.binds, Mi.freeAt, Mi.okE, Mi.fit0, Mi.fit1, Mi.fit2, Mi.fit3, Mi.fit4, Mi.fit5, Mi.fit6, Mi.fit7, Mi.fit8, Mi.fit9, nds_len, b1', e1, b2, flat1])]
  have b3 : inI 62 (bs.length : Int) = true := inI_nat (by omega)
  have b4 : fit bs.length = true := Nat.ble_eq_true_of_le (by unfold line; omega)
  rw [exs_next (env' := [.val (.int L), .val (.tup (nds bs)), .own (.lst (nds (cntL L bs ++ List.replicate (L + 1) 1))), x']) (st' := st) (by
    rw [ex_for (d := .lst (dn bs.length)) (st' := st) (by
      rw [← rngL_rev]
      simp [Mi.ex, Mi.exs, Mi.ev, Mi.evs, Mi.R.bind, Mi.R.toS, Mi.R.toSs, Mi.R.toX, Mi.R.of, Mi.biF, Mi.cmp, Mi.res, Mi.idx, Mi.bin, Mi.iterOf, Mi.rngF, Mi.bind, Mi.binds, Mi.freeAt, Mi.okE, Mi.fit0, Mi.fit1, Mi.fit2, Mi.fit3, Mi.fit4, Mi.fit5, Mi.fit6, Mi.fit7, Mi.fit8, Mi.fit9, nds_len, b3, b4, rev]) rfl]
    exact eloop)]
  refine exs_ret ?_
  have := idx0 (cnt_head L bs (List.replicate (L + 1) 1))
  simp [ex, ev, R.bind, R.toS, R.toX, R.of, res, this]
end Mi

set_option Elab.async false
set_option linter.all false
set_option maxRecDepth 100000
set_option maxHeartbeats 1000000
/-! Mi22: what is asked of a game's numbers. -/
namespace Mi
theorem lc_map {turn : D → Store → R (Option D)} {g : D → D} {st : Store} : ∀ (xs acc : List D), (∀ x ∈ xs, turn x st = .ok (some (g x)) st) → lcGo turn xs acc st = .ok (.lst (acc ++ xs.map g)) st
  | [], acc, _ => by show R.ok (D.lst acc) st = _; rw [List.map_nil, List.append_nil]
  | x :: xs, acc, h => by
    show (turn x st).bind _ = _
    rw [h x List.mem_cons_self]
    show lcGo turn xs (acc ++ [g x]) st = _
    rw [lc_map xs (acc ++ [g x]) fun y hy => h y (List.mem_cons_of_mem _ hy)]
    simp
theorem is_whole_ok {Pr : Prog} (h : Pr.fn Df.n_is_whole = some Df.d_is_whole) (k : Nat) (x lo hi : Int) (st : Store) : (run Pr (k + 1)).fn Df.n_is_whole [.int x, .int lo, .int hi] st = .ok (.bl (decide (lo ≤ x) && decide (x ≤ hi))) st := by
  rw [run_fn h, call_ret (r := .bl (decide (lo ≤ x) && decide (x ≤ hi))) (st' := st) rfl ?_, trunc_same]
  show exs _ _ [.val (.int x), .val (.int lo), .val (.int hi)] st = _
  unfold Df.d_is_whole
  refine exs_ret ?_
  by_cases c : lo ≤ x
  · simp [Mi.ex, Mi.exs, Mi.ev, Mi.evs, Mi.R.bind, Mi.R.toS, Mi.R.toSs, Mi.R.toX, Mi.R.of, Mi.biF, Mi.cmp, Mi.res, Mi.idx, Mi.bin, Mi.iterOf, Mi.rngF, Mi.bind, Mi.binds, Mi.freeAt, Mi.okE, Mi.fit0, Mi.fit1, Mi.fit2, Mi.fit3, Mi.fit4, Mi.fit5, Mi.fit6, Mi.fit7, Mi.fit8, Mi.fit9, D.typ, c]
  · simp [Mi.ex, Mi.exs, Mi.ev, Mi.evs, Mi.R.bind, Mi.R.toS, Mi.R.toSs, Mi.R.toX, Mi.R.of, Mi.biF, Mi.cmp, Mi.res, Mi.idx, Mi.bin, Mi.iterOf, Mi.rngF, Mi.bind, Mi.binds, Mi.freeAt, Mi.okE, Mi.fit0, Mi.fit1, Mi.fit2, Mi.fit3, Mi.fit4, Mi.fit5, Mi.fit6, Mi.fit7, Mi.fit8, Mi.fit9, D.typ, c]
/-- the draws' defs -/
structure Dr (Pr : Prog) : Prop where
  cell : Pr.fn Df.n__law_cell_at = some Df.d__law_cell_at
  mixed : Pr.fn Df.n__law_mixed = some Df.d__law_mixed
  draw : Pr.fn Df.n__law_draw = some Df.d__law_draw
/-- the games' defs -/
structure Gm (Pr : Prog) : Prop where
  whole : Pr.fn Df.n_is_whole = some Df.d_is_whole
  beats : Pr.fn Df.n_are_beats = some Df.d_are_beats
  nlate : Pr.fn Df.n_need_late = some Df.d_need_late
  nbeats : Pr.fn Df.n_need_beats = some Df.d_need_beats
  mostOf : Pr.fn Df.n_most_of = some Df.d_most_of
theorem asBls_true : ∀ xs : List D, asBls (xs.map fun _ => D.bl true) = some (List.replicate xs.length true)
  | [] => rfl
  | x :: xs => by
    show (match asBls (xs.map fun _ => D.bl true) with | some bs => some (true :: bs) | none => none) = _
    rw [asBls_true xs]
    rfl
theorem all_rep (n : Nat) : (List.replicate n true).all id = true := by
  simp
theorem ev_lc {F : Fns} {md : Md} {elt it : E} {vs : List Nat} {t : T} {env : Env} {st st' : Store} {d : D} {xs : List D} {g : D → D} (h : ev F .iter it env st = .ok d st') (hi : iterOf d = some xs)
    (hg : ∀ x ∈ xs, ∃ env2, bind t x (wipe env vs) = some env2 ∧ ev F .kept elt env2 st' = .ok (g x) st') : ev F md (.lc elt vs t it []) env st = .ok (.lst (xs.map g)) st' := by
  unfold ev
  rw [h]
  show (match iterOf d with
    | some xs => lcGo _ xs [] st'
    | none => .bad) = _
  rw [hi]
  show lcGo _ xs [] st' = _
  rw [lc_map (g := g) xs []]
  · simp
  · intro x hx
    obtain ⟨env2, e1, e2⟩ := hg x hx
    simp [e1, evs, R.bind, e2]
theorem mem_nds {x : D} {l : List Nat} (h : x ∈ nds l) : ∃ n ∈ l, x = .int (n : Int) := by
  unfold nds at h
  obtain ⟨n, h1, h2⟩ := List.mem_map.mp h
  exact ⟨n, h1, h2.symm⟩
theorem are_beats_ok {Pr : Prog} (h : Gm Pr) (k m : Nat) (bs : List Nat) (hb : ∀ b ∈ bs, b ≤ 3) (hm : bs.length ≤ m) (st : Store) : (run Pr (k + 2)).fn Df.n_are_beats [.tup (nds bs), .int m] st = .ok (.bl true) st := by
  rw [run_fn h.beats, call_ret (r := .bl true) (st' := st) rfl ?_, trunc_same]
  show exs _ _ [.val (.tup (nds bs)), .val (.int m), .emp] st = _
  unfold Df.d_are_beats
  refine exs_ret ?_
  have e : ev (run Pr (k + 1)) .read (.lc (.call 74 [.var 2, .con (.int 0), .glob [] (.int 3)]) [2] (.name 2) (.var 0) []) [.val (.tup (nds bs)), .val (.int m), .emp] st = .ok (.lst ((nds bs).map fun _ => D.bl true)) st := by
    refine ev_lc (d := .tup (nds bs)) rfl rfl fun x hx => ?_
    obtain ⟨n, hn, rfl⟩ := mem_nds hx
    refine ⟨_, rfl, ?_⟩
    have := is_whole_ok h.whole k n 0 3 st
    have h3 : (n : Int) ≤ 3 := by have := hb n hn; omega
    have h0 : (0 : Int) ≤ n := by omega
    rw [decide_eq_true h0, decide_eq_true h3] at this
    exact this
  have hm2 : decide (((nds bs).length : Int) ≤ (m : Int)) = true := by rw [nds_len]; exact decide_eq_true (by omega)
  refine ex_ret ?_
  rw [ev_and_t (st1 := st) rfl]
  have e2 : ev (run Pr (k + 1)) .read (.cmp .le (.bi .len [.var 0]) (.var 1)) [.val (.tup (nds bs)), .val (.int m), .emp] st = .ok (.bl true) st := by
    refine ev_cmp (x := .int (nds bs).length) (y := .int m) (st1 := st) rfl rfl ?_
    show some (D.bl (decide (((nds bs).length : Int) ≤ (m : Int)))) = _
    rw [hm2]
  rw [ev_and_t e2]
  refine ev_bi1 e ?_
  show (asBls ((nds bs).map fun _ => D.bl true)).map (fun bs => D.bl (bs.all id)) = _
  rw [asBls_true]
  show some (D.bl _) = _
  rw [all_rep]
theorem need_late_ok {Pr : Prog} (h : Gm Pr) (k L : Nat) (hL : L ≤ 5) (st : Store) : (run Pr (k + 2)).fn Df.n_need_late [.int L] st = .ok .non st := by
  rw [run_fn h.nlate, call_next (st' := st) (env := [.val (.int L)]) rfl ?_, trunc_same]
  show exs _ _ [.val (.int L)] st = _
  unfold Df.d_need_late
  have := is_whole_ok h.whole k L 0 5 st
  rw [decide_eq_true (show (0 : Int) ≤ L by omega), decide_eq_true (show (L : Int) ≤ 5 by omega)] at this
  have e : (run Pr (k + 1)).fn 74 [.int (L : Int), .int 0, .int 5] st = .ok (.bl true) st := this
  rw [exs_next (env' := [.val (.int L)]) (st' := st) (by simp [Mi.ex, Mi.exs, Mi.ev, Mi.evs, Mi.R.bind, Mi.R.toS, Mi.R.toSs, Mi.R.toX, Mi.R.of, Mi.biF, Mi.cmp, Mi.res, Mi.idx, Mi.bin, Mi.iterOf, Mi.rngF, Mi.bind, Mi.binds, Mi.freeAt, Mi.okE, Mi.fit0, Mi.fit1, Mi.fit2, Mi.fit3, Mi.fit4, Mi.fit5, Mi.fit6, Mi.fit7, Mi.fit8, Mi.fit9, e])]
  rfl
theorem need_beats_ok {Pr : Prog} (h : Gm Pr) (k : Nat) (bs : List Nat) (hb : ∀ b ∈ bs, b ≤ 3) (hm : bs.length ≤ 8) (st : Store) : (run Pr (k + 3)).fn Df.n_need_beats [.tup (nds bs)] st = .ok .non st := by
  rw [run_fn h.nbeats, call_next (st' := st) (env := [.val (.tup (nds bs))]) rfl ?_, trunc_same]
  show exs _ _ [.val (.tup (nds bs))] st = _
  unfold Df.d_need_beats
  have e : (run Pr (k + 2)).fn 43 [.tup (nds bs), .int 8] st = .ok (.bl true) st := are_beats_ok h k 8 bs hb hm st
  rw [exs_next (env' := [.val (.tup (nds bs))]) (st' := st) (by simp [Mi.ex, Mi.exs, Mi.ev, Mi.evs, Mi.R.bind, Mi.R.toS, Mi.R.toSs, Mi.R.toX, Mi.R.of, Mi.biF, Mi.cmp, Mi.res, Mi.idx, Mi.bin, Mi.iterOf, Mi.rngF, Mi.bind, Mi.binds, Mi.freeAt, Mi.okE, Mi.fit0, Mi.fit1, Mi.fit2, Mi.fit3, Mi.fit4, Mi.fit5, Mi.fit6, Mi.fit7, Mi.fit8, Mi.fit9, e])]
  rfl
theorem most_ok {Pr : Prog} (h : Gm Pr) (hm : Pr.fn Df.n_most = some Df.d_most) (k L : Nat) (bs : List Nat) (hL : L ≤ 5) (hb : ∀ b ∈ bs, b ≤ 3) (hl : bs.length ≤ 8) (st : Store) : (run Pr (k + 4)).fn Df.n_most [.int L, .tup (nds bs)] st = .ok (.int (cnt L bs)) st := by
  rw [run_fn hm, call_ret (r := .int (cnt L bs)) (st' := st) rfl ?_, trunc_same]
  show exs _ _ [.val (.int L), .val (.tup (nds bs))] st = _
  unfold Df.d_most
  have e1 : (run Pr (k + 3)).fn 87 [.int (L : Int)] st = .ok .non st := need_late_ok h (k + 1) L hL st
  have e2 : (run Pr (k + 3)).fn 85 [.tup (nds bs)] st = .ok .non st := need_beats_ok h k bs hb hl st
  have e3 : (run Pr (k + 3)).fn 81 [.int (L : Int), .tup (nds bs)] st = .ok (.int (cnt L bs)) st := most_of_ok h.mostOf (k + 2) L bs hb (by omega) (by omega) st
  rw [exs_next (env' := [.val (.int L), .val (.tup (nds bs))]) (st' := st) (by simp [Mi.ex, Mi.exs, Mi.ev, Mi.evs, Mi.R.bind, Mi.R.toS, Mi.R.toSs, Mi.R.toX, Mi.R.of, Mi.biF, Mi.cmp, Mi.res, Mi.idx, Mi.bin, Mi.iterOf, Mi.rngF, Mi.bind, Mi.binds, Mi.freeAt, Mi.okE, Mi.fit0, Mi.fit1, Mi.fit2, Mi.fit3, Mi.fit4, Mi.fit5, Mi.fit6, Mi.fit7, Mi.fit8, Mi.fit9, e1])]
  rw [exs_next (env' := [.val (.int L), .val (.tup (nds bs))]) (st' := st) (by simp [Mi.ex, Mi.exs, Mi.ev, Mi.evs, Mi.R.bind, Mi.R.toS, Mi.R.toSs, Mi.R.toX, Mi.R.of, Mi.biF, Mi.cmp, Mi.res, Mi.idx, Mi.bin, Mi.iterOf, Mi.rngF, Mi.bind, Mi.binds, Mi.freeAt, Mi.okE, Mi.fit0, Mi.fit1, Mi.fit2, Mi.fit3, Mi.fit4, Mi.fit5, Mi.fit6, Mi.fit7, Mi.fit8, Mi.fit9, e2])]
  exact exs_ret (by simp [Mi.ex, Mi.exs, Mi.ev, Mi.evs, Mi.R.bind, Mi.R.toS, Mi.R.toSs, Mi.R.toX, Mi.R.of, Mi.biF, Mi.cmp, Mi.res, Mi.idx, Mi.bin, Mi.iterOf, Mi.rngF, Mi.bind, Mi.binds, Mi.freeAt, Mi.okE, Mi.fit0, Mi.fit1, Mi.fit2, Mi.fit3, Mi.fit4, Mi.fit5, Mi.fit6, Mi.fit7, Mi.fit8, Mi.fit9, e3])
end Mi

set_option Elab.async false
set_option linter.all false
set_option maxRecDepth 100000
set_option maxHeartbeats 1000000
/-! Mi23: some beats, drawn. -/
namespace Mi
theorem draw0 {Pr : Prog} (h : Dr Pr) (k : Nat) (xs : List Int) (hx : xs.length ≤ 63) (b : Nat) (hb : 0 < b) (ys : List D) (rest : Store) (hy : ys.length < 16777216) :
    ∃ r : Nat, r < b ∧ (run Pr (k + 3)).fn 8 [.scr (xs.map D.int), .loc 0, .int b] (.lst ys :: rest) = .ok (.int r) (.lst (ys ++ [.int 0]) :: rest) :=
  draw_ok h.draw h.mixed h.cell k xs hx b hb (.lst ys :: rest) 0 ys rfl hy
/-- only zeros were added -/
def Zr (ys ys' : List D) : Prop := ∃ n, ys' = ys ++ List.replicate n (.int 0)
theorem Zr.refl (ys : List D) : Zr ys ys := ⟨0, by simp⟩
theorem Zr.snoc (ys : List D) : Zr ys (ys ++ [.int 0]) := ⟨1, rfl⟩
theorem Zr.trans {a b c : List D} (x : Zr a b) (y : Zr b c) : Zr a c := by
  obtain ⟨n, rfl⟩ := x
  obtain ⟨m, rfl⟩ := y
  exact ⟨n + m, by rw [List.append_assoc, List.replicate_append_replicate]⟩
theorem pick6 {r1 r2 : Nat} (h1 : r1 < 4) (h2 : r2 < 6) : ∃ v : Nat, v ≤ 3 ∧ idx (.lst [.int 1, .int 1, .int 1, .int 2, .int 0, .int (r1 : Int)]) (.int (r2 : Int)) = some (.int (v : Int)) := by
  match r2, h2 with
  | 0, _ => exact ⟨1, by omega, rfl⟩
  | 1, _ => exact ⟨1, by omega, rfl⟩
  | 2, _ => exact ⟨1, by omega, rfl⟩
  | 3, _ => exact ⟨2, by omega, rfl⟩
  | 4, _ => exact ⟨0, by omega, rfl⟩
  | 5, _ => exact ⟨r1, by omega, rfl⟩
abbrev sbBody : List S := [.append 3 (.idx (.list [.con (.int 1), .con (.int 1), .con (.int 1), .con (.int 2), .con (.int 0), .call 8 [.var 0, .var 1, .con (.int 4)]]) (.call 8 [.var 0, .var 1, .con (.int 6)]))]
theorem sb_turn {Pr : Prog} (h : Dr Pr) (k : Nat) (xs : List Int) (hx : xs.length ≤ 63) (ys : List D) (rest : Store) (hy : ys.length + 1 < 16777216) (made : List Nat) (hm : made.length < 1000) (c x : Sl) :
    ∃ (v : Nat) (ys' : List D), v ≤ 3 ∧ ys'.length = ys.length + 2 ∧ Zr ys ys' ∧ exs (run Pr (k + 3)) sbBody [.val (.scr (xs.map D.int)), .val (.loc 0), c, .own (.lst (nds made)), x] (.lst ys :: rest) = .next [.val (.scr (xs.map D.int)), .val (.loc 0), c, .own (.lst (nds (made ++ [v]))), x] (.lst ys' :: rest) := by
  obtain ⟨r1, h1, e1⟩ := draw0 h k xs hx 4 (by omega) ys rest (by omega)
  obtain ⟨r2, h2, e2⟩ := draw0 h k xs hx 6 (by omega) (ys ++ [.int 0]) rest (by simp; omega)
  obtain ⟨v, hv, ev⟩ := pick6 h1 h2
  refine ⟨v, ys ++ [.int 0] ++ [.int 0], hv, by simp, (Zr.snoc ys).trans (Zr.snoc _), ?_⟩
  have f1 : fit ((nds made).length + 1) = true := Nat.ble_eq_true_of_le (by rw [nds_len]; unfold line; omega)
  have hn : nds made ++ [.int (v : Int)] = nds (made ++ [v]) := nds_app made [v]
  have hfirst : Mi.ev (run Pr (k + 3)) .kept (.idx (.list [.con (.int 1), .con (.int 1), .con (.int 1), .con (.int 2), .con (.int 0), .call 8 [.var 0, .var 1, .con (.int 4)]]) (.call 8 [.var 0, .var 1, .con (.int 6)])) [.val (.scr (xs.map D.int)), .val (.loc 0), c, .own (.lst (nds made)), x] (.lst ys :: rest) = .ok (.int v) (.lst (ys ++ [.int 0] ++ [.int 0]) :: rest) := by
    have e1' : (run Pr (k + 3)).fn 8 [.scr (xs.map D.int), .loc 0, .int 4] (.lst ys :: rest) = .ok (.int r1) (.lst (ys ++ [.int 0]) :: rest) := e1
    have e2' : (run Pr (k + 3)).fn 8 [.scr (xs.map D.int), .loc 0, .int 6] (.lst (ys ++ [.int 0]) :: rest) = .ok (.int r2) (.lst (ys ++ [.int 0] ++ [.int 0]) :: rest) := e2
    have a1 : Mi.ev (run Pr (k + 3)) .read (.list [.con (.int 1), .con (.int 1), .con (.int 1), .con (.int 2), .con (.int 0), .call 8 [.var 0, .var 1, .con (.int 4)]]) [.val (.scr (xs.map D.int)), .val (.loc 0), c, .own (.lst (nds made)), x] (.lst ys :: rest) = .ok (.lst [.int 1, .int 1, .int 1, .int 2, .int 0, .int (r1 : Int)]) (.lst (ys ++ [.int 0]) :: rest) := by
      simp [Mi.ex, Mi.exs, Mi.ev, Mi.evs, Mi.R.bind, Mi.R.toS, Mi.R.toSs, Mi.R.toX, Mi.R.of, Mi.biF, Mi.cmp, Mi.res, Mi.idx, Mi.bin, Mi.iterOf, Mi.rngF, Mi.bind, Mi.binds, Mi.freeAt, Mi.okE, Mi.fit0, Mi.fit1, Mi.fit2, Mi.fit3, Mi.fit4, Mi.fit5, Mi.fit6, Mi.fit7, Mi.fit8, Mi.fit9, e1']
    have a2 : Mi.ev (run Pr (k + 3)) .kept (.call 8 [.var 0, .var 1, .con (.int 6)]) [.val (.scr (xs.map D.int)), .val (.loc 0), c, .own (.lst (nds made)), x] (.lst (ys ++ [.int 0]) :: rest) = .ok (.int r2) (.lst (ys ++ [.int 0] ++ [.int 0]) :: rest) := e2'
    rw [Mi.ev, a1]
    show (Mi.ev (run Pr (k + 3)) .kept (.call 8 [.var 0, .var 1, .con (.int 6)]) _ _).bind _ = _
    rw [a2]
    show R.of (idx (.lst [.int 1, .int 1, .int 1, .int 2, .int 0, .int (r1 : Int)]) (.int (r2 : Int))) _ = _
    rw [ev]
    rfl
  refine exs_next (ss := []) (env' := _) (st' := _) ?_
  rw [ex]
  show (Mi.ev (run Pr (k + 3)) .kept _ _ _).toS _ = _
  rw [hfirst]
  show (if fit ((nds made).length + 1) = true then RS.next _ _ else .bad) = _
  rw [if_pos f1, hn]
  rfl
theorem sb_loop {Pr : Prog} (h : Dr Pr) (k : Nat) (xs : List Int) (hx : xs.length ≤ 63) (rest : Store) (c : Sl) : ∀ (l ys : List D) (made : List Nat) (x : Sl), nolck x = true → ys.length + 2 * l.length < 16777216 → made.length + l.length < 1000 → (∀ b ∈ made, b ≤ 3) →
    ∃ (bs : List Nat) (ys' : List D) (x' : Sl), bs.length = made.length + l.length ∧ (∀ b ∈ bs, b ≤ 3) ∧ ys'.length = ys.length + 2 * l.length ∧ Zr ys ys' ∧
      forGo (fun x env st => match bind (.name 4) x env with
      | some env => exs (run Pr (k + 3)) sbBody env st
      | none => .bad) l [.val (.scr (xs.map D.int)), .val (.loc 0), c, .own (.lst (nds made)), x] (.lst ys :: rest) = .next [.val (.scr (xs.map D.int)), .val (.loc 0), c, .own (.lst (nds bs)), x'] (.lst ys' :: rest)
  | [], ys, made, x, _, _, _, hm => ⟨made, ys, x, rfl, hm, rfl, Zr.refl ys, rfl⟩
  | d :: l, ys, made, x, hx', hy, hl, hm => by
    simp only [List.length_cons] at hy hl
    obtain ⟨v, ys1, hv, hy1, z1, e1⟩ := sb_turn h k xs hx ys rest (by omega) made (by omega) c (.val d)
    obtain ⟨bs, ys2, x', b1, b2, b3, z2, e2⟩ := sb_loop h k xs hx rest c l ys1 (made ++ [v]) (.val d) rfl (by omega) (by simp; omega) (fun b hb => by
      rcases List.mem_append.mp hb with hb | hb
      · exact hm b hb
      · simp at hb; omega)
    refine ⟨bs, ys2, x', by simp at b1 ⊢; omega, b2, by simp; omega, z1.trans z2, ?_⟩
    rw [← e2]
    have eb : bind (.name 4) d [.val (.scr (xs.map D.int)), .val (.loc 0), c, .own (.lst (nds made)), x] = some [.val (.scr (xs.map D.int)), .val (.loc 0), c, .own (.lst (nds made)), .val d] := by
      cases x <;> first | rfl | cases hx'
    show (match (match bind (.name 4) d [.val (.scr (xs.map D.int)), .val (.loc 0), c, .own (.lst (nds made)), x] with
      | some env => exs (run Pr (k + 3)) sbBody env (.lst ys :: rest)
      | none => .bad) with
      | .next env st => forGo _ l env st
      | r => r) = _
    rw [eb]
    show (match exs (run Pr (k + 3)) sbBody _ (.lst ys :: rest) with
      | .next env st => forGo _ l env st
      | r => r) = _
    rw [e1]
theorem rngL_len : ∀ (n : Nat) (a c : Int), (rngL a c n).length = n
  | 0, _, _ => rfl
  | n + 1, a, c => by show (rngL (a + c) c n).length + 1 = n + 1; rw [rngL_len n]
theorem some_beats_okZ {Pr : Prog} (h : Dr Pr) (hs : Pr.fn Df.n__law_some_beats = some Df.d__law_some_beats) (k : Nat) (xs : List Int) (hx : xs.length ≤ 63) (M : Nat) (hM : M ≤ 8) (ys : List D) (rest : Store) (hy : ys.length < 1000000) :
    ∃ (bs : List Nat) (ys' : List D), bs.length ≤ M ∧ (∀ b ∈ bs, b ≤ 3) ∧ ys'.length ≤ ys.length + 17 ∧ Zr ys ys' ∧ (run Pr (k + 4)).fn 31 [.scr (xs.map D.int), .loc 0, .int M] (.lst ys :: rest) = .ok (.tup (nds bs)) (.lst ys' :: rest) := by
  obtain ⟨r, hr, er⟩ := draw0 h k xs hx (M + 1) (by omega) ys rest (by omega)
  obtain ⟨bs, ys', x', b1, b2, b3, z, eloop⟩ := sb_loop h k xs hx rest (.val (.int M)) (rngL 0 1 r) (ys ++ [.int 0]) [] .emp rfl (by simp [rngL_len]; omega) (by simp [rngL_len]; omega) (by simp)
  rw [rngL_len] at b1 b3
  refine ⟨bs, ys', by simp at b1; omega, b2, by simp at b3; omega, (Zr.snoc ys).trans z, ?_⟩
  rw [show (31 : Nat) = Df.n__law_some_beats from rfl, run_fn hs, call_ret (r := .tup (nds bs)) (st' := .lst ys' :: rest) rfl ?_, trunc_eq (by simp)]
  show exs _ _ [.val (.scr (xs.map D.int)), .val (.loc 0), .val (.int M), .emp, .emp] _ = _
  unfold Df.d__law_some_beats
  have er' : (run Pr (k + 3)).fn 8 [.scr (xs.map D.int), .loc 0, .int ((M : Int) + 1)] (.lst ys :: rest) = .ok (.int r) (.lst (ys ++ [.int 0]) :: rest) := er
  have t1 : inI 62 (r : Int) = true := inI_nat (by omega)
  have t2 : fit r = true := Nat.ble_eq_true_of_le (by unfold line; omega)
  rw [exs_next (env' := [.val (.scr (xs.map D.int)), .val (.loc 0), .val (.int M), .own (.lst (nds [])), .emp]) (st' := .lst ys :: rest) rfl]
  rw [exs_next (env' := [.val (.scr (xs.map D.int)), .val (.loc 0), .val (.int M), .own (.lst (nds bs)), x']) (st' := .lst ys' :: rest) (by
    rw [ex_for (d := .lst (rngL 0 1 r)) (st' := .lst (ys ++ [.int 0]) :: rest) (by simp [Mi.ex, Mi.exs, Mi.ev, Mi.evs, Mi.R.bind, Mi.R.toS, Mi.R.toSs, Mi.R.toX, Mi.R.of, Mi.biF, Mi.cmp, Mi.res, Mi.idx, Mi.bin, Mi.iterOf, Mi.rngF, Mi.bind, Mi.binds, Mi.freeAt, Mi.okE, Mi.fit0, Mi.fit1, Mi.fit2, Mi.fit3, Mi.fit4, Mi.fit5, Mi.fit6, Mi.fit7, Mi.fit8, Mi.fit9, er', t1, t2]) rfl]
    exact eloop)]
  exact exs_ret rfl
theorem some_beats_ok {Pr : Prog} (h : Dr Pr) (hs : Pr.fn Df.n__law_some_beats = some Df.d__law_some_beats) (k : Nat) (xs : List Int) (hx : xs.length ≤ 63) (M : Nat) (hM : M ≤ 8) (ys : List D) (rest : Store) (hy : ys.length < 1000000) :
    ∃ (bs : List Nat) (ys' : List D), bs.length ≤ M ∧ (∀ b ∈ bs, b ≤ 3) ∧ ys'.length ≤ ys.length + 17 ∧ (run Pr (k + 4)).fn 31 [.scr (xs.map D.int), .loc 0, .int M] (.lst ys :: rest) = .ok (.tup (nds bs)) (.lst ys' :: rest) := by
  obtain ⟨bs, ys', h1, h2, h3, _, h4⟩ := some_beats_okZ h hs k xs hx M hM ys rest hy
  exact ⟨bs, ys', h1, h2, h3, h4⟩
end Mi

set_option Elab.async false
set_option linter.all false
set_option maxRecDepth 100000
set_option maxHeartbeats 1000000
/-! Mi24: the counts, plain. -/
namespace Mi
theorem cntL_getD (L : Nat) : ∀ (bs : List Nat) (i : Nat), (cntL L bs).getD i 1 = cnt L (bs.drop i)
  | [], 0 => rfl
  | [], i + 1 => by simp [cntL, cnt]
  | b :: bs, 0 => rfl
  | b :: bs, i + 1 => by
    show (cntL L bs).getD i 1 = cnt L (bs.drop i)
    exact cntL_getD L bs i
theorem cnt_nil (L : Nat) : cnt L [] = 1 := rfl
theorem cnt_cons (L b : Nat) (bs : List Nat) : cnt L (b :: bs) = cnt L bs + b * cnt L (bs.drop L) := by
  show (cntL L bs).headD 1 + b * (cntL L bs).getD L 1 = _
  rw [cntL_getD]
  rfl
theorem cnt_pos (L : Nat) : ∀ bs : List Nat, 1 ≤ cnt L bs
  | [] => Nat.le_refl 1
  | b :: bs => by rw [cnt_cons]; have := cnt_pos L bs; omega
theorem cnt_tail (L b : Nat) (bs : List Nat) : cnt L bs ≤ cnt L (b :: bs) := by rw [cnt_cons]; omega
theorem cnt_drop (L : Nat) : ∀ (bs : List Nat) (n : Nat), cnt L (bs.drop n) ≤ cnt L bs
  | bs, 0 => Nat.le_refl _
  | [], n + 1 => Nat.le_refl _
  | b :: bs, n + 1 => Nat.le_trans (cnt_drop L bs n) (cnt_tail L b bs)
theorem cnt_late (L : Nat) : ∀ (n : Nat) (bs : List Nat), bs.length ≤ n → cnt (L + 1) bs ≤ cnt L bs
  | _, [], _ => Nat.le_refl _
  | n + 1, b :: bs, h => by
    simp only [List.length_cons] at h
    rw [cnt_cons, cnt_cons]
    have h1 := cnt_late L n bs (by omega)
    have h2 := cnt_late L n (bs.drop (L + 1)) (by rw [List.length_drop]; omega)
    have h3 : cnt L (bs.drop (L + 1)) ≤ cnt L (bs.drop L) := by
      rw [show bs.drop (L + 1) = (bs.drop L).drop 1 by rw [List.drop_drop]]
      exact cnt_drop L _ 1
    have h4 := Nat.mul_le_mul_left b (Nat.le_trans h2 h3)
    omega
/-- what each beat is worth -/
def wl (L : Nat) : List Nat → List Nat
  | [] => []
  | b :: bs => b * cnt L (bs.drop L) :: wl L bs
theorem wl_sum (L : Nat) : ∀ bs : List Nat, (wl L bs).sum + 1 = cnt L bs
  | [] => rfl
  | b :: bs => by
    rw [cnt_cons, wl, List.sum_cons]
    have := wl_sum L bs
    omega
/-- one beat less -/
theorem cnt_zero (L : Nat) : ∀ (n : Nat) (bs : List Nat) (i : Nat), bs.length ≤ n → cnt L (bs.set i 0) ≤ cnt L bs
  | _, [], _, _ => Nat.le_refl _
  | n + 1, b :: bs, 0, h => by
    show cnt L (0 :: bs) ≤ _
    rw [cnt_cons, cnt_cons]
    omega
  | n + 1, b :: bs, i + 1, h => by
    simp only [List.length_cons] at h
    show cnt L (b :: bs.set i 0) ≤ _
    rw [cnt_cons, cnt_cons]
    have h1 := cnt_zero L n bs i (by omega)
    have h2 : cnt L ((bs.set i 0).drop L) ≤ cnt L (bs.drop L) := by
      rw [List.drop_set]
      split
      · exact Nat.le_refl _
      · exact cnt_zero L n (bs.drop L) _ (by rw [List.length_drop]; omega)
    have h4 := Nat.mul_le_mul_left b h2
    omega
theorem cnt_zero_lt (L : Nat) : ∀ (bs : List Nat) (i b : Nat), bs[i]? = some b → 0 < b → cnt L (bs.set i 0) < cnt L bs
  | [], _, _, h, _ => by simp at h
  | c :: bs, 0, b, h, hb => by
    simp at h
    subst h
    show cnt L (0 :: bs) < _
    rw [cnt_cons, cnt_cons]
    have := cnt_pos L (bs.drop L)
    have := Nat.mul_pos hb this
    omega
  | c :: bs, i + 1, b, h, hb => by
    show cnt L (c :: bs.set i 0) < _
    rw [cnt_cons, cnt_cons]
    have h1 := cnt_zero_lt L bs i b (by simpa using h) hb
    have h2 : cnt L ((bs.set i 0).drop L) ≤ cnt L (bs.drop L) := by
      rw [List.drop_set]
      split
      · exact Nat.le_refl _
      · exact cnt_zero L _ (bs.drop L) _ (Nat.le_refl _)
    have h4 := Nat.mul_le_mul_left c h2
    omega
theorem cnt_rep (L c : Nat) (hc : 0 < c) : ∀ n : Nat, n + 1 ≤ cnt L (List.replicate n c)
  | 0 => Nat.le_refl _
  | n + 1 => by
    rw [List.replicate_succ, cnt_cons]
    have h1 := cnt_rep L c hc n
    have h2 := Nat.mul_pos hc (cnt_pos L ((List.replicate n c).drop L))
    omega
/-- the first that is enough -/
theorem first_enough {f : Nat → Nat} {T : Nat} : ∀ (n : Nat), T ≤ f n → ∃ m, m ≤ n ∧ T ≤ f m ∧ ∀ i, i < m → f i < T
  | 0, h => ⟨0, Nat.le_refl _, h, fun i hi => absurd hi (Nat.not_lt_zero i)⟩
  | n + 1, h => by
    by_cases c : ∃ j, j ≤ n ∧ T ≤ f j
    · obtain ⟨j, hj, hf⟩ := c
      obtain ⟨m, m1, m2, m3⟩ := first_enough j hf
      exact ⟨m, by omega, m2, m3⟩
    · refine ⟨n + 1, Nat.le_refl _, h, fun i hi => ?_⟩
      by_cases q : T ≤ f i
      · exact absurd ⟨i, by omega, q⟩ c
      · omega
termination_by n => n
decreasing_by omega
end Mi

set_option Elab.async false
set_option linter.all false
set_option maxRecDepth 100000
set_option maxHeartbeats 1000000
/-! Mi25: slices, worths, fewest, is_game. -/
namespace Mi
theorem cut_drop {α : Type} (xs : List α) (v : Nat) : cut xs (some (v : Int)) none = xs.drop v := by
  have h : ¬ ((v : Int) < 0) := by omega
  unfold cut sIx
  simp only [h, if_false, Int.toNat_natCast]
  by_cases c : v ≤ xs.length
  · rw [Nat.min_eq_left c, List.take_of_length_le (by rw [List.length_drop]; exact Nat.le_refl _)]
  · rw [Nat.min_eq_right (by omega), List.drop_of_length_le (Nat.le_refl _), List.drop_of_length_le (by omega)]
    simp
theorem cut_take {α : Type} (xs : List α) (v : Nat) : cut xs none (some (v : Int)) = xs.take v := by
  have h : ¬ ((v : Int) < 0) := by omega
  unfold cut sIx
  simp only [h, if_false, Int.toNat_natCast, List.drop_zero, Nat.sub_zero]
  by_cases c : v ≤ xs.length
  · rw [Nat.min_eq_left c]
  · rw [Nat.min_eq_right (by omega), List.take_of_length_le (Nat.le_refl _), List.take_of_length_le (by omega)]
theorem nds_drop (l : List Nat) (v : Nat) : (nds l).drop v = nds (l.drop v) := (List.map_drop ..).symm
theorem nds_take (l : List Nat) (v : Nat) : (nds l).take v = nds (l.take v) := (List.map_take ..).symm
theorem slc_drop (bs : List Nat) (v : Nat) : slc (.tup (nds bs)) [.int (v : Int)] [] = some (.tup (nds (bs.drop v))) := by
  show some (D.tup (cut (nds bs) (some (v : Int)) none)) = _
  rw [cut_drop, nds_drop]
theorem slc_take (bs : List Nat) (v : Nat) : slc (.tup (nds bs)) [] [.int (v : Int)] = some (.tup (nds (bs.take v))) := by
  show some (D.tup (cut (nds bs) none (some (v : Int)))) = _
  rw [cut_take, nds_take]
theorem same_ok' {Pr : Prog} (h : Pr.fn Df.n__law_same_number = some Df.d__law_same_number) (k : Nat) (x : Int) (st : Store) : (run Pr (k + 1)).fn 29 [.int x, .int x] st = .ok (.bl true) st := by
  rw [show (29 : Nat) = Df.n__law_same_number from rfl, run_fn h, call_ret (r := .bl true) (st' := st) rfl ?_, trunc_same]
  show exs _ _ [.val (.int x), .val (.int x)] st = _
  unfold Df.d__law_same_number
  refine exs_ret ?_
  have e : D.eqv (.int x) (.int x) = true := by simp [D.eqv]
  have o : okData (.int x) = true := rfl
  simp [Mi.ex, Mi.exs, Mi.ev, Mi.evs, Mi.R.bind, Mi.R.toS, Mi.R.toSs, Mi.R.toX, Mi.R.of, Mi.biF, Mi.cmp, Mi.res, Mi.idx, Mi.bin, Mi.iterOf, Mi.rngF, Mi.bind, Mi.binds, Mi.freeAt, Mi.okE, Mi.fit0, Mi.fit1, Mi.fit2, Mi.fit3, Mi.fit4, Mi.fit5, Mi.fit6, Mi.fit7, Mi.fit8, Mi.fit9, D.typ, e, o]
/-- a walk with numbers: what each gives -/
def gW (L : Nat) (bs : List Nat) : D → D
  | .tup [.int i, .int b] => .int (b * (cnt L (bs.drop (i.toNat + 1 + L)) : Nat))
  | _ => .non
def gR (L : Nat) (bs : List Nat) : D → D
  | .int i => .int (((bs[i.toNat]?).getD 0 * cnt L (bs.drop (i.toNat + 1 + L)) : Nat) : Int)
  | _ => .non
theorem enm_wl (L : Nat) (bs : List Nat) : ∀ (t : List Nat) (a : Nat), bs.drop a = t → (enmL (a : Int) (nds t)).map (gW L bs) = nds (wl L t)
  | [], _, _ => rfl
  | b :: t, a, h => by
    have h1 : bs.drop (a + 1) = t := by rw [← List.drop_drop, h]; rfl
    have ih := enm_wl L bs t (a + 1) h1
    show gW L bs (.tup [.int (a : Int), .int (b : Int)]) :: (enmL ((a : Int) + 1) (nds t)).map (gW L bs) = nds (b * cnt L (t.drop L) :: wl L t)
    have e2 : ((a : Int) + 1) = ((a + 1 : Nat) : Int) := by omega
    rw [e2, ih]
    show D.int ((b : Int) * ((cnt L (bs.drop (a + 1 + L)) : Nat) : Int)) :: nds (wl L t) = .int ((b * cnt L (t.drop L) : Nat) : Int) :: nds (wl L t)
    rw [← List.drop_drop, h1]
    simp
theorem rng_wl (L : Nat) (bs : List Nat) : ∀ (t : List Nat) (a : Nat), bs.drop a = t → (rngL (a : Int) 1 t.length).map (gR L bs) = nds (wl L t)
  | [], _, _ => rfl
  | b :: t, a, h => by
    have h1 : bs.drop (a + 1) = t := by rw [← List.drop_drop, h]; rfl
    have ih := rng_wl L bs t (a + 1) h1
    have hb : bs[a]? = some b := by
      have : (bs.drop a)[0]? = some b := by rw [h]; rfl
      rwa [List.getElem?_drop, Nat.add_zero] at this
    show gR L bs (.int (a : Int)) :: (rngL ((a : Int) + 1) 1 t.length).map (gR L bs) = nds (b * cnt L (t.drop L) :: wl L t)
    have e2 : ((a : Int) + 1) = ((a + 1 : Nat) : Int) := by omega
    rw [e2, ih]
    show D.int (((bs[a]?).getD 0 * cnt L (bs.drop (a + 1 + L)) : Nat) : Int) :: nds (wl L t) = .int ((b * cnt L (t.drop L) : Nat) : Int) :: nds (wl L t)
    rw [hb, ← List.drop_drop, h1]
    rfl
theorem enm_mem (bs : List Nat) : ∀ (t : List Nat) (a : Nat) (x : D), x ∈ enmL (a : Int) (nds t) → ∃ i b : Nat, x = .tup [.int (i : Int), .int (b : Int)] ∧ b ∈ t
  | [], _, _, h => by cases h
  | b :: t, a, x, h => by
    have h : x ∈ D.tup [.int (a : Int), .int (b : Int)] :: enmL ((a : Int) + 1) (nds t) := h
    rcases List.mem_cons.mp h with rfl | h
    · exact ⟨a, b, rfl, List.mem_cons_self⟩
    · have e2 : ((a : Int) + 1) = ((a + 1 : Nat) : Int) := by omega
      rw [e2] at h
      obtain ⟨i, c, e, hc⟩ := enm_mem bs t (a + 1) x h
      exact ⟨i, c, e, List.mem_cons_of_mem _ hc⟩
theorem rng_mem : ∀ (n : Nat) (a : Nat) (x : D), x ∈ rngL (a : Int) 1 n → ∃ i : Nat, x = .int (i : Int) ∧ a ≤ i ∧ i < a + n
  | 0, _, _, h => by cases h
  | n + 1, a, x, h => by
    have h : x ∈ D.int (a : Int) :: rngL ((a : Int) + 1) 1 n := h
    rcases List.mem_cons.mp h with rfl | h
    · exact ⟨a, rfl, Nat.le_refl _, by omega⟩
    · have e2 : ((a : Int) + 1) = ((a + 1 : Nat) : Int) := by omega
      rw [e2] at h
      obtain ⟨i, e, h1, h2⟩ := rng_mem n (a + 1) x h
      exact ⟨i, e, by omega, by omega⟩
theorem worths_ok {Pr : Prog} (h : Gm Pr) (hw : Pr.fn Df.n_worths = some Df.d_worths) (k L : Nat) (bs : List Nat) (hL : L ≤ 5) (hb : ∀ b ∈ bs, b ≤ 3) (hl : bs.length ≤ 8) (st : Store) : (run Pr (k + 4)).fn 115 [.int L, .tup (nds bs)] st = .ok (.lst (nds (wl L bs))) st := by
  rw [show (115 : Nat) = Df.n_worths from rfl, run_fn hw, call_ret (r := .lst (nds (wl L bs))) (st' := st) rfl ?_, trunc_same]
  show exs _ _ [.val (.int L), .val (.tup (nds bs)), .emp, .emp] st = _
  unfold Df.d_worths
  have e1 : (run Pr (k + 3)).fn 87 [.int (L : Int)] st = .ok .non st := need_late_ok h (k + 1) L hL st
  have e2 : (run Pr (k + 3)).fn 85 [.tup (nds bs)] st = .ok .non st := need_beats_ok h k bs hb hl st
  rw [exs_next (env' := [.val (.int L), .val (.tup (nds bs)), .emp, .emp]) (st' := st) (by simp [Mi.ex, Mi.exs, Mi.ev, Mi.evs, Mi.R.bind, Mi.R.toS, Mi.R.toSs, Mi.R.toX, Mi.R.of, Mi.biF, Mi.cmp, Mi.res, Mi.idx, Mi.bin, Mi.iterOf, Mi.rngF, Mi.bind, Mi.binds, Mi.freeAt, Mi.okE, Mi.fit0, Mi.fit1, Mi.fit2, Mi.fit3, Mi.fit4, Mi.fit5, Mi.fit6, Mi.fit7, Mi.fit8, Mi.fit9, e1])]
  rw [exs_next (env' := [.val (.int L), .val (.tup (nds bs)), .emp, .emp]) (st' := st) (by simp [Mi.ex, Mi.exs, Mi.ev, Mi.evs, Mi.R.bind, Mi.R.toS, Mi.R.toSs, Mi.R.toX, Mi.R.of, Mi.biF, Mi.cmp, Mi.res, Mi.idx, Mi.bin, Mi.iterOf, Mi.rngF, Mi.bind, Mi.binds, Mi.freeAt, Mi.okE, Mi.fit0, Mi.fit1, Mi.fit2, Mi.fit3, Mi.fit4, Mi.fit5, Mi.fit6, Mi.fit7, Mi.fit8, Mi.fit9, e2])]
  refine exs_ret (ex_ret ?_)
  rw [← enm_wl L bs bs 0 rfl]
  refine ev_lc (d := .lst (enmL (0 : Int) (nds bs))) rfl rfl fun x hx => ?_
  obtain ⟨i, b, rfl, hbm⟩ := enm_mem bs bs 0 x hx
  refine ⟨[.val (.int L), .val (.tup (nds bs)), .val (.int i), .val (.int b)], rfl, ?_⟩
  have e3 : (run Pr (k + 3)).fn 81 [.int (L : Int), .tup (nds (bs.drop (i + 1 + L)))] st = .ok (.int (cnt L (bs.drop (i + 1 + L)))) st := most_of_ok h.mostOf (k + 2) L _ (fun b hb' => hb b (List.mem_of_mem_drop hb')) (by omega) (by rw [List.length_drop]; omega) st
  have es : slc (.tup (nds bs)) [.int ((i : Int) + 1 + (L : Int))] [] = some (.tup (nds (bs.drop (i + 1 + L)))) := slc_drop bs (i + 1 + L)
  have t : inI 64 (b : Int) = true := inI_nat (by have := hb b hbm; omega)
  simp [Mi.ex, Mi.exs, Mi.ev, Mi.evs, Mi.R.bind, Mi.R.toS, Mi.R.toSs, Mi.R.toX, Mi.R.of, Mi.biF, Mi.cmp, Mi.res, Mi.idx, Mi.bin, Mi.iterOf, Mi.rngF, Mi.bind, Mi.binds, Mi.freeAt, Mi.okE, Mi.fit0, Mi.fit1, Mi.fit2, Mi.fit3, Mi.fit4, Mi.fit5, Mi.fit6, Mi.fit7, Mi.fit8, Mi.fit9, es, e3, t, gW]
theorem while_run {test : Env → Store → R D} {body : Env → Store → RS} {envs : Nat → Env} {st : Store} {m : Nat} (ht : ∀ i, i < m → test (envs i) st = .ok (.bl true) st) (he : test (envs m) st = .ok (.bl false) st) (hb : ∀ i, i < m → body (envs i) st = .next (envs (i + 1)) st) :
    ∀ (n fuel i : Nat), i + n = m → n < fuel → whileGo test body fuel (envs i) st = .next (envs m) st
  | 0, fuel + 1, i, h, _ => by
    have : i = m := by omega
    subst this
    unfold whileGo
    rw [he]
  | n + 1, fuel + 1, i, h, hf => by
    have ih := while_run ht he hb n fuel (i + 1) (by omega) (by omega)
    rw [← ih]
    rw [whileGo, ht i (by omega)]
    show (match body (envs i) st with
      | .next env st => whileGo test body fuel env st
      | r => r) = _
    rw [hb i (by omega)]
theorem rep_tup (c i : Nat) (hi : i ≤ 1000) : bin .mul (.tup [.int (c : Int)]) (.int (i : Int)) = some (.tup (nds (List.replicate i c))) := by
  have b1 : inI 62 (i : Int) = true := inI_nat (by omega)
  have b2 : fit (1 * i) = true := Nat.ble_eq_true_of_le (by unfold line; omega)
  show (if (inI 62 (i : Int) && fit (1 * i)) = true then some (D.tup (List.replicate i [D.int (c : Int)]).flatten) else none) = _
  rw [b1, b2, flat1, nds_rep]
  rfl
/-- how many beats are needed -/
theorem enough (L c T : Nat) (hc : 0 < c) (hT : 0 < T) : ∃ m, m < T ∧ T ≤ cnt L (List.replicate m c) ∧ ∀ i, i < m → cnt L (List.replicate i c) < T := by
  obtain ⟨m, h1, h2, h3⟩ := first_enough (f := fun n => cnt L (List.replicate n c)) (T := T) (T - 1) (by have := cnt_rep L c hc (T - 1); show T ≤ _; omega)
  exact ⟨m, by omega, h2, h3⟩
theorem rep_le {c n : Nat} (h : c ≤ 3) : ∀ b ∈ List.replicate n c, b ≤ 3 := fun b hb => by rw [List.eq_of_mem_replicate hb]; exact h
theorem fewest_ok {Pr : Prog} (h : Gm Pr) (hf : Pr.fn Df.n_fewest = some Df.d_fewest) (k L c T m : Nat) (hL : L ≤ 5) (hc : 0 < c) (hc3 : c ≤ 3) (hT : 0 < T) (hT64 : T ≤ 64) (hm : m < T) (h1 : T ≤ cnt L (List.replicate m c)) (h2 : ∀ i, i < m → cnt L (List.replicate i c) < T) (st : Store) : (run Pr (k + 4)).fn 54 [.int T, .int L, .int c] st = .ok (.int m) st := by
  rw [show (54 : Nat) = Df.n_fewest from rfl, run_fn hf, call_ret (r := .int m) (st' := st) rfl ?_, trunc_same]
  show exs _ _ [.val (.int T), .val (.int L), .val (.int c), .emp] st = _
  unfold Df.d_fewest
  have w1 := is_whole_ok h.whole (k + 2) T 1 64 st
  rw [decide_eq_true (show (1 : Int) ≤ T by omega), decide_eq_true (show (T : Int) ≤ 64 by omega)] at w1
  have w1' : (run Pr (k + 3)).fn 74 [.int (T : Int), .int 1, .int 64] st = .ok (.bl true) st := w1
  have w2 := is_whole_ok h.whole (k + 2) c 1 3 st
  rw [decide_eq_true (show (1 : Int) ≤ c by omega), decide_eq_true (show (c : Int) ≤ 3 by omega)] at w2
  have w2' : (run Pr (k + 3)).fn 74 [.int (c : Int), .int 1, .int 3] st = .ok (.bl true) st := w2
  have e1 : (run Pr (k + 3)).fn 87 [.int (L : Int)] st = .ok .non st := need_late_ok h (k + 1) L hL st
  rw [exs_next (env' := [.val (.int T), .val (.int L), .val (.int c), .emp]) (st' := st) (by simp [Mi.ex, Mi.exs, Mi.ev, Mi.evs, Mi.R.bind, Mi.R.toS, Mi.R.toSs, Mi.R.toX, Mi.R.of, Mi.biF, Mi.cmp, Mi.res, Mi.idx, Mi.bin, Mi.iterOf, Mi.rngF, Mi.bind, Mi.binds, Mi.freeAt, Mi.okE, Mi.fit0, Mi.fit1, Mi.fit2, Mi.fit3, Mi.fit4, Mi.fit5, Mi.fit6, Mi.fit7, Mi.fit8, Mi.fit9, w1'])]
  rw [exs_next (env' := [.val (.int T), .val (.int L), .val (.int c), .emp]) (st' := st) (by simp [Mi.ex, Mi.exs, Mi.ev, Mi.evs, Mi.R.bind, Mi.R.toS, Mi.R.toSs, Mi.R.toX, Mi.R.of, Mi.biF, Mi.cmp, Mi.res, Mi.idx, Mi.bin, Mi.iterOf, Mi.rngF, Mi.bind, Mi.binds, Mi.freeAt, Mi.okE, Mi.fit0, Mi.fit1, Mi.fit2, Mi.fit3, Mi.fit4, Mi.fit5, Mi.fit6, Mi.fit7, Mi.fit8, Mi.fit9, e1])]
  rw [exs_next (env' := [.val (.int T), .val (.int L), .val (.int c), .emp]) (st' := st) (by simp [Mi.ex, Mi.exs, Mi.ev, Mi.evs, Mi.R.bind, Mi.R.toS, Mi.R.toSs, Mi.R.toX, Mi.R.of, Mi.biF, Mi.cmp, Mi.res, Mi.idx, Mi.bin, Mi.iterOf, Mi.rngF, Mi.bind, Mi.binds, Mi.freeAt, Mi.okE, Mi.fit0, Mi.fit1, Mi.fit2, Mi.fit3, Mi.fit4, Mi.fit5, Mi.fit6, Mi.fit7, Mi.fit8, Mi.fit9, w2'])]
  rw [exs_next (env' := [.val (.int T), .val (.int L), .val (.int c), .val (.int ((0 : Nat) : Int))]) (st' := st) rfl]
  have test : ∀ i : Nat, i ≤ 1000 → ev (run Pr (k + 3)) .read (.cmp .lt (.call 81 [.var 1, .bin .mul (.tup [.var 2]) (.var 3)]) (.var 0)) [.val (.int T), .val (.int L), .val (.int c), .val (.int (i : Int))] st = .ok (.bl (decide ((cnt L (List.replicate i c) : Int) < (T : Int)))) st := fun i hi => by
    have e3 : (run Pr (k + 3)).fn 81 [.int (L : Int), .tup (nds (List.replicate i c))] st = .ok (.int (cnt L (List.replicate i c))) st := most_of_ok h.mostOf (k + 2) L _ (rep_le hc3) (by omega) (by rw [List.length_replicate]; omega) st
    refine ev_cmp (x := .int (cnt L (List.replicate i c))) (y := .int T) (st1 := st) ?_ rfl rfl
    have a : evs (run Pr (k + 3)) .kept [.var 1, .bin .mul (.tup [.var 2]) (.var 3)] [.val (.int T), .val (.int L), .val (.int c), .val (.int (i : Int))] st = .ok [.int L, .tup (nds (List.replicate i c))] st := by
      have := rep_tup c i hi
      simp [evs, ev, R.bind, R.of, res, this, fit1]
    rw [ev, a]
    exact e3
  rw [exs_next (env' := [.val (.int T), .val (.int L), .val (.int c), .val (.int (m : Int))]) (st' := st) (by
    have tr : ∀ i, i < m → (fun env st => ev (run Pr (k + 3)) .read (.cmp .lt (.call 81 [.var 1, .bin .mul (.tup [.var 2]) (.var 3)]) (.var 0)) env st) [.val (.int T), .val (.int L), .val (.int c), .val (.int (i : Int))] st = .ok (.bl true) st := fun i hi => by
      have := test i (by omega)
      rw [decide_eq_true (by have := h2 i hi; omega)] at this
      exact this
    have te : (fun env st => ev (run Pr (k + 3)) .read (.cmp .lt (.call 81 [.var 1, .bin .mul (.tup [.var 2]) (.var 3)]) (.var 0)) env st) [.val (.int T), .val (.int L), .val (.int c), .val (.int (m : Int))] st = .ok (.bl false) st := by
      have := test m (by omega)
      rw [decide_eq_false (by omega)] at this
      exact this
    exact while_run (body := fun env st => exs (run Pr (k + 3)) [.aug 3 .add (.con (.int 1))] env st) (envs := fun i : Nat => [.val (.int T), .val (.int L), .val (.int c), .val (.int (i : Int))]) tr te (fun i hi => rfl) m 1000 0 (Nat.zero_add m) (by omega))]
  exact exs_ret rfl
theorem good_game_ok {Pr : Prog} (h : Gm Pr) (hg : Pr.fn Df.n_good_game = some Df.d_good_game) (k T L : Nat) (bs : List Nat) (hT : 0 < T) (hT64 : T ≤ 64) (hL : L ≤ 5) (hb : ∀ b ∈ bs, b ≤ 3) (hl : bs.length ≤ 8) (st : Store) : (run Pr (k + 3)).fn 62 [.tup [.int T, .int L, .tup (nds bs)]] st = .ok (.bl true) st := by
  rw [show (62 : Nat) = Df.n_good_game from rfl, run_fn hg, call_ret (r := .bl true) (st' := st) rfl ?_, trunc_same]
  show exs _ _ [.val (.tup [.int T, .int L, .tup (nds bs)])] st = _
  unfold Df.d_good_game
  have w1 := is_whole_ok h.whole (k + 1) T 1 64 st
  rw [decide_eq_true (show (1 : Int) ≤ T by omega), decide_eq_true (show (T : Int) ≤ 64 by omega)] at w1
  have w2 := is_whole_ok h.whole (k + 1) L 0 5 st
  rw [decide_eq_true (show (0 : Int) ≤ L by omega), decide_eq_true (show (L : Int) ≤ 5 by omega)] at w2
  have w3 := are_beats_ok h k 8 bs hb hl st
  rw [exs_next (env' := [.val (.tup [.int T, .int L, .tup (nds bs)])]) (st' := st) rfl]
  refine exs_ret (ex_ret ?_)
  have v1 : ev (run Pr (k + 2)) .read (.call 74 [.idx (.var 0) (.con (.int 0)), .con (.int 1), .glob [] (.int 64)]) [.val (.tup [.int T, .int L, .tup (nds bs)])] st = .ok (.bl true) st := w1
  have v2 : ev (run Pr (k + 2)) .read (.call 74 [.idx (.var 0) (.con (.int 1)), .con (.int 0), .glob [] (.int 5)]) [.val (.tup [.int T, .int L, .tup (nds bs)])] st = .ok (.bl true) st := w2
  rw [ev_and_t v1, ev_and_t v2]
  exact w3
theorem is_game_ok {Pr : Prog} (h : Gm Pr) (hg : Pr.fn Df.n_good_game = some Df.d_good_game) (hi : Pr.fn Df.n_is_game = some Df.d_is_game) (k T L : Nat) (bs : List Nat) (hT : 0 < T) (hT64 : T ≤ 64) (hL : L ≤ 5) (hb : ∀ b ∈ bs, b ≤ 3) (hl : bs.length ≤ 8) (st : Store) : (run Pr (k + 4)).fn 69 [.tup [.int T, .int L, .tup (nds bs)]] st = .ok (.bl true) st := by
  rw [show (69 : Nat) = Df.n_is_game from rfl, run_fn hi, call_ret (r := .bl true) (st' := st) rfl ?_, trunc_same]
  exact exs_ret (ex_ret (good_game_ok h hg k T L bs hT hT64 hL hb hl st))
end Mi

set_option Elab.async false
set_option linter.all false
set_option maxRecDepth 100000
set_option maxHeartbeats 1000000
/-! Mi30: helpers for laws that are gone through by evaluation. -/
namespace Mi
/-- the names of a town after n draws -/
def zeros (n : Nat) : List D := List.replicate n (.int 0)
def zs : Nat → List D → Bool
  | 0, [] => true
  | n + 1, .int 0 :: r => zs n r
  | _, _ => false
theorem zs_ok : ∀ (n : Nat) (l : List D), zs n l = true → l = zeros n
  | 0, [], _ => rfl
  | 0, _ :: _, h => by cases h
  | n + 1, [], h => by cases h
  | n + 1, x :: r, h => by
    have ⟨e1, h2⟩ : x = .int 0 ∧ zs n r = true := by
      unfold zs at h
      split at h
      · rename_i q _; cases q
      · rename_i e1 e2; cases e1; cases e2; exact ⟨rfl, h⟩
      · cases h
    rw [e1, zs_ok _ _ h2]
    rfl
def isB (b : Bool) (n : Nat) : R D → Bool
  | .ok (.bl c) [.lst ys] => (c == b) && zs n ys
  | _ => false
theorem isB_ok {b : Bool} {n : Nat} {r : R D} (h : isB b n r = true) : r = .ok (.bl b) [.lst (zeros n)] := by
  unfold isB at h
  split at h <;> (try contradiction)
  obtain ⟨h1, h2⟩ := Bool.and_eq_true_iff.mp h
  rw [zs_ok _ _ h2, eq_of_beq h1]
theorem all_lt {n i : Nat} {p : Nat → Bool} (h : (List.range n).all p = true) (hi : i < n) : p i = true := List.all_eq_true.mp h i (List.mem_range.mpr hi)
theorem zeros_snoc (n : Nat) : zeros n ++ [.int 0] = zeros (n + 1) := by
  unfold zeros
  rw [show [D.int 0] = List.replicate 1 (.int 0) from rfl, List.replicate_append_replicate]
theorem zeros_len (n : Nat) : (zeros n).length = n := List.length_replicate
theorem evs1 {F : Fns} {md : Md} {a : E} {env : Env} {st st1 : Store} {x : D} (h1 : ev F md a env st = .ok x st1) : evs F md [a] env st = .ok [x] st1 := by
  rw [evs, h1]; rfl
theorem evs2 {F : Fns} {md : Md} {a b : E} {env : Env} {st st1 st2 : Store} {x y : D} (h1 : ev F md a env st = .ok x st1) (h2 : ev F md b env st1 = .ok y st2) : evs F md [a, b] env st = .ok [x, y] st2 := by
  rw [evs, h1]
  show (evs F md [b] env st1).bind _ = _
  rw [evs1 h2]; rfl
theorem evs3 {F : Fns} {md : Md} {a b c : E} {env : Env} {st st1 st2 st3 : Store} {x y z : D} (h1 : ev F md a env st = .ok x st1) (h2 : ev F md b env st1 = .ok y st2) (h3 : ev F md c env st2 = .ok z st3) : evs F md [a, b, c] env st = .ok [x, y, z] st3 := by
  rw [evs, h1]
  show (evs F md [b, c] env st1).bind _ = _
  rw [evs2 h2 h3]; rfl
theorem ev_draw {Pr : Prog} (h : Dr Pr) (k : Nat) (xs : List Int) (hx : xs.length ≤ 63) (b n : Nat) (hb : 0 < b) (hn : n < 16777216) {e : E} {md : Md} {env : Env} (h0 : env[0]? = some (.val (.scr (xs.map D.int)))) (h1 : env[1]? = some (.val (.loc 0))) (he : ev (run Pr (k + 3)) .kept e env [.lst (zeros n)] = .ok (.int (b : Int)) [.lst (zeros n)]) :
    ∃ r : Nat, r < b ∧ ev (run Pr (k + 3)) md (.call 8 [.var 0, .var 1, e]) env [.lst (zeros n)] = .ok (.int r) [.lst (zeros (n + 1))] := by
  obtain ⟨r, hr, er⟩ := draw0 h k xs hx b hb (zeros n) [] (by rw [zeros_len]; exact hn)
  refine ⟨r, hr, ?_⟩
  rw [zeros_snoc] at er
  have v0 : ev (run Pr (k + 3)) .kept (.var 0) env [.lst (zeros n)] = .ok (.scr (xs.map D.int)) [.lst (zeros n)] := by
    rw [ev, h0]
  have v1 : ev (run Pr (k + 3)) .kept (.var 1) env [.lst (zeros n)] = .ok (.loc 0) [.lst (zeros n)] := by
    rw [ev, h1]
  rw [ev, evs3 v0 v1 he]
  exact er
theorem exs_cons {F : Fns} {x : S} {a : List S} {env : Env} {st : Store} : exs F (x :: a) env st = match ex F x env st with
    | .next e s => exs F a e s
    | r => r := by
  first | (rw [exs]; done) | (rw [exs]; cases ex F x env st <;> rfl)
theorem exs_app {F : Fns} {a b : List S} {env env' : Env} {st st' : Store} : exs F a env st = .next env' st' → exs F (a ++ b) env st = exs F b env' st' := by
  induction a generalizing env st with
  | nil => intro h; cases h; rfl
  | cons x a ih =>
    intro h
    rw [List.cons_append, exs_cons]
    rw [exs_cons] at h
    cases q : ex F x env st with
    | next e s => rw [q] at h; exact ih h
    | ret _ _ => rw [q] at h; cases h
    | err _ _ => rw [q] at h; cases h
    | bad => rw [q] at h; cases h
theorem ex_while {F : Fns} {t : E} {body : List S} {env : Env} {st : Store} : ex F (.while_ t body) env st = whileGo (fun env st => ev F .read t env st) (fun env st => exs F body env st) 1000 env st := by
  rw [ex]
theorem while_true {test : Env → Store → R D} {body : Env → Store → RS} {n : Nat} {env env' : Env} {st st1 st2 : Store} (h : test env st = .ok (.bl true) st1) (h2 : body env st1 = .next env' st2) : whileGo test body (n + 1) env st = whileGo test body n env' st2 := by
  rw [whileGo, h]
  dsimp only
  rw [h2]
theorem while_false {test : Env → Store → R D} {body : Env → Store → RS} {n : Nat} {env : Env} {st st1 : Store} (h : test env st = .ok (.bl false) st1) : whileGo test body (n + 1) env st = .next env st1 := by
  rw [whileGo, h]
theorem for_nil {turn : D → Env → Store → RS} {env : Env} {st : Store} : forGo turn [] env st = .next env st := rfl
theorem for_cons {turn : D → Env → Store → RS} {x : D} {xs : List D} {env env' : Env} {st st' : Store} (h : turn x env st = .next env' st') : forGo turn (x :: xs) env st = forGo turn xs env' st' := by
  rw [forGo, h]
theorem for_bind {F : Fns} {t : T} {body : List S} {x : D} {xs : List D} {env env1 env' : Env} {st st' : Store} (hb : bind t x env = some env1) (h : exs F body env1 st = .next env' st') :
    forGo (fun x env st => match bind t x env with
      | some env => exs F body env st
      | none => .bad) (x :: xs) env st = forGo (fun x env st => match bind t x env with
      | some env => exs F body env st
      | none => .bad) xs env' st' := by
  refine for_cons ?_
  show (match bind t x env with
      | some env => exs F body env st
      | none => .bad) = _
  rw [hb]
  exact h
end Mi

set_option Elab.async false
set_option linter.all false
set_option maxRecDepth 100000
set_option maxHeartbeats 1000000
/-! Mi50: plans as plain trees. -/
namespace Mi
inductive Pl where
  | fin | ask (c : List Nat) (ps : List Pl)
mutual
def Pl.enc : Pl → D
  | .fin => .tup [.str [101, 110, 100]]
  | .ask c ps => .tup [.str [97, 115, 107], .tup (nds c), .tup (Pl.encs ps)]
def Pl.encs : List Pl → List D
  | [] => []
  | p :: ps => Pl.enc p :: Pl.encs ps
end
theorem encs_map : ∀ ps, Pl.encs ps = ps.map Pl.enc
  | [] => rfl
  | p :: ps => by show Pl.enc p :: Pl.encs ps = _; rw [encs_map ps]; rfl
theorem encs_len (ps : List Pl) : (Pl.encs ps).length = ps.length := by rw [encs_map, List.length_map]
theorem encs_get (ps : List Pl) (i : Nat) : (Pl.encs ps)[i]? = (ps[i]?).map Pl.enc := by rw [encs_map, List.getElem?_map]
theorem enc_fin : Pl.enc .fin = .tup [.str [101, 110, 100]] := rfl
theorem enc_ask (c : List Nat) (ps : List Pl) : Pl.enc (.ask c ps) = .tup [.str [97, 115, 107], .tup (nds c), .tup (Pl.encs ps)] := rfl
/-- what was put, as data -/
def pds (put : List (List Nat)) : List D := put.map fun c => D.tup (nds c)
theorem pds_len (put : List (List Nat)) : (pds put).length = put.length := List.length_map ..
theorem pds_app (a b : List (List Nat)) : pds a ++ pds b = pds (a ++ b) := (List.map_append ..).symm
theorem pds_get (put : List (List Nat)) (i : Nat) : (pds put)[i]? = (put[i]?).map fun c => D.tup (nds c) := List.getElem?_map ..
def due (L : Nat) (put : List (List Nat)) : List Nat := if L < put.length then (put[put.length - 1 - L]?).getD [] else []
def ans (c : List Nat) (t : Nat) : Nat := (c.filter fun x => decide (x ≤ t)).length
theorem ans_le (c : List Nat) (t : Nat) : ans c t ≤ c.length := List.length_filter_le ..
structure CutsOk (T b : Nat) (c : List Nat) : Prop where
  len : c.length ≤ b
  rng : ∀ x ∈ c, 1 ≤ x ∧ x < T
  up : c.Pairwise (· < ·)
/-- a plan behind what was put; r: the beats left -/
def Pl.Ok (T L : Nat) : List Nat → List (List Nat) → Pl → Prop
  | [], _, .fin => True
  | b :: r, put, .ask c ps => CutsOk T b c ∧ ps.length = (due L (put ++ [c])).length + 1 ∧ ∀ p ∈ ps, Pl.Ok T L r (put ++ [c]) p
  | _, _, _ => False
/-- all that is put for a thing -/
def wayF (L t : Nat) : List Nat → List (List Nat) → Pl → List (List Nat)
  | _ :: r, put, .ask c ps => wayF L t r (put ++ [c]) ((ps[ans (due L (put ++ [c])) t]?).getD .fin)
  | _, put, _ => put
def gm (T L : Nat) (bs : List Nat) : D := .tup [.int (T : Int), .int (L : Int), .tup (nds bs)]
/-- a game -/
structure Game (T L : Nat) (bs : List Nat) : Prop where
  t1 : 0 < T
  t2 : T ≤ 64
  l : L ≤ 5
  b : ∀ b ∈ bs, b ≤ 3
  n : bs.length ≤ 8
theorem plains_nds : ∀ l : List Nat, D.plains (nds l) = true
  | [] => rfl
  | x :: xs => by show (true && D.plains (nds xs)) = true; rw [plains_nds xs]; rfl
theorem depths_nds : ∀ l : List Nat, D.depths (nds l) = 0
  | [] => rfl
  | x :: xs => by show max 0 (D.depths (nds xs)) = 0; rw [depths_nds xs]; rfl
theorem plains_pds : ∀ l : List (List Nat), D.plains (pds l) = true
  | [] => rfl
  | x :: xs => by show (D.plains (nds x) && D.plains (pds xs)) = true; rw [plains_pds xs, plains_nds]; rfl
theorem depths_pds : ∀ l : List (List Nat), D.depths (pds l) ≤ 1
  | [] => by show 0 ≤ 1; omega
  | x :: xs => by
    show max (D.depths (nds x) + 1) (D.depths (pds xs)) ≤ 1
    rw [depths_nds]; have := depths_pds xs; omega
theorem eqvs_nds_iff : ∀ a b : List Nat, D.eqvs (nds a) (nds b) = decide (a = b)
  | [], [] => rfl
  | [], _ :: _ => rfl
  | _ :: _, [] => rfl
  | x :: a, y :: b => by
    show (D.eqv (.int (x : Int)) (.int (y : Int)) && D.eqvs (nds a) (nds b)) = _
    rw [eqvs_nds_iff a b]
    show (((x : Int) == (y : Int)) && decide (a = b)) = _
    by_cases h : x = y
    · by_cases h2 : a = b <;> simp [h, h2]
    · have : ¬ ((x : Int) = (y : Int)) := by omega
      simp [h, this]
theorem eqvs_pds_iff : ∀ a b : List (List Nat), D.eqvs (pds a) (pds b) = decide (a = b)
  | [], [] => rfl
  | [], _ :: _ => rfl
  | _ :: _, [] => rfl
  | x :: a, y :: b => by
    show (D.eqvs (nds x) (nds y) && D.eqvs (pds a) (pds b)) = _
    rw [eqvs_pds_iff a b, eqvs_nds_iff]
    by_cases h : x = y <;> by_cases h2 : a = b <;> simp [h, h2]
theorem keys_nds : ∀ l : List Nat, D.keysA (nds l) = true
  | [] => rfl
  | x :: xs => by show (true && D.keysA (nds xs)) = true; rw [keys_nds xs]; rfl
theorem keys_pds : ∀ l : List (List Nat), D.keysA (pds l) = true
  | [] => rfl
  | x :: xs => by show (D.keysA (nds x) && D.keysA (pds xs)) = true; rw [keys_pds xs, keys_nds]; rfl
/-- plans are plain data -/
theorem plain_enc (T L : Nat) : ∀ (r : List Nat) (put : List (List Nat)) (p : Pl), Pl.Ok T L r put p → D.plain p.enc = true ∧ D.depth p.enc ≤ 2 * r.length + 1
  | [], put, .fin, _ => ⟨rfl, by show 1 ≤ 1; omega⟩
  | [], _, .ask _ _, h => by cases h
  | _ :: _, _, .fin, h => by cases h
  | b :: r, put, .ask c ps, h => by
    obtain ⟨h1, h2, h3⟩ := h
    have aux : ∀ qs : List Pl, (∀ p ∈ qs, Pl.Ok T L r (put ++ [c]) p) → D.plains (Pl.encs qs) = true ∧ D.depths (Pl.encs qs) ≤ 2 * r.length + 1 := by
      intro qs
      induction qs with
      | nil => exact fun _ => ⟨rfl, by show 0 ≤ _; omega⟩
      | cons q qs ih =>
        intro hq
        obtain ⟨a1, a2⟩ := plain_enc T L r (put ++ [c]) q (hq q List.mem_cons_self)
        obtain ⟨b1, b2⟩ := ih fun p hp => hq p (List.mem_cons_of_mem _ hp)
        refine ⟨?_, ?_⟩
        · show (D.plain q.enc && D.plains (Pl.encs qs)) = true
          rw [a1, b1]; rfl
        · show max (D.depth q.enc) (D.depths (Pl.encs qs)) ≤ _
          omega
    obtain ⟨a1, a2⟩ := aux ps h3
    refine ⟨?_, ?_⟩
    · show (true && (D.plains (nds c) && (D.plains (Pl.encs ps) && true))) = true
      rw [plains_nds, a1]; rfl
    · show max 0 (max (D.depths (nds c) + 1) (max (D.depths (Pl.encs ps) + 1) 0)) + 1 ≤ _
      rw [depths_nds, List.length_cons]; omega
theorem ok_enc' {T L : Nat} {r : List Nat} {put : List (List Nat)} {p : Pl} (h : Pl.Ok T L r put p) (hr : r.length ≤ 8) : okData p.enc = true := by
  obtain ⟨a, b⟩ := plain_enc T L r put p h
  unfold okData
  rw [a, Nat.ble_eq_true_of_le (show D.depth p.enc ≤ 60 by omega)]
  rfl
theorem way_len (L t T : Nat) : ∀ (r : List Nat) (put : List (List Nat)) (p : Pl), Pl.Ok T L r put p → (wayF L t r put p).length = put.length + r.length
  | [], put, .fin, _ => rfl
  | [], _, .ask _ _, h => by cases h
  | _ :: _, _, .fin, h => by cases h
  | b :: r, put, .ask c ps, h => by
    obtain ⟨h1, h2, h3⟩ := h
    show (wayF L t r (put ++ [c]) ((ps[ans (due L (put ++ [c])) t]?).getD .fin)).length = _
    have hl : ans (due L (put ++ [c])) t < ps.length := by have := ans_le (due L (put ++ [c])) t; omega
    rw [List.getElem?_eq_getElem hl]
    rw [Option.getD_some, way_len L t T r (put ++ [c]) _ (h3 _ (List.getElem_mem hl))]
    simp; omega
theorem way_pre (L t : Nat) : ∀ (r : List Nat) (put : List (List Nat)) (p : Pl), ∃ s, wayF L t r put p = put ++ s
  | [], put, p => ⟨[], by rw [List.append_nil]; cases p <;> rfl⟩
  | b :: r, put, .fin => ⟨[], by rw [List.append_nil]; rfl⟩
  | b :: r, put, .ask c ps => by
    obtain ⟨s, e⟩ := way_pre L t r (put ++ [c]) ((ps[ans (due L (put ++ [c])) t]?).getD .fin)
    exact ⟨c :: s, by show wayF L t r (put ++ [c]) ((ps[ans (due L (put ++ [c])) t]?).getD .fin) = _; rw [e]; simp⟩
theorem way_cuts (L t T : Nat) : ∀ (r : List Nat) (put : List (List Nat)) (p : Pl), Pl.Ok T L r put p → (∀ c ∈ put, CutsOk T 3 c) → (∀ b ∈ r, b ≤ 3) → ∀ c ∈ wayF L t r put p, CutsOk T 3 c
  | [], put, .fin, _, hp, _ => hp
  | [], _, .ask _ _, h, _, _ => by cases h
  | _ :: _, _, .fin, h, _, _ => by cases h
  | b :: r, put, .ask c ps, h, hp, hr => by
    obtain ⟨h1, h2, h3⟩ := h
    have hl : ans (due L (put ++ [c])) t < ps.length := by have := ans_le (due L (put ++ [c])) t; omega
    have := way_cuts L t T r (put ++ [c]) _ (h3 _ (List.getElem_mem hl)) (fun c' hc' => by
      rcases List.mem_append.mp hc' with hc' | hc'
      · exact hp c' hc'
      · rw [List.mem_singleton] at hc'; subst hc'; exact ⟨Nat.le_trans h1.len (hr b List.mem_cons_self), h1.rng, h1.up⟩) (fun b hb => hr b (List.mem_cons_of_mem _ hb))
    show ∀ c' ∈ wayF L t r (put ++ [c]) ((ps[ans (due L (put ++ [c])) t]?).getD .fin), _
    rw [List.getElem?_eq_getElem hl]
    exact this
end Mi

set_option Elab.async false
set_option linter.all false
set_option maxRecDepth 100000
set_option maxHeartbeats 1000000
/-! Mi51: plans, ways: what the defs tell. -/
namespace Mi
theorem idx_tup {xs : List D} {n : Nat} {d : D} (h : xs[n]? = some d) : idx (.tup xs) (.int (n : Int)) = some d := by
  have hn : n < xs.length := (List.getElem?_eq_some_iff.mp h).1
  show (match ixN xs.length (n : Int) with
    | some n => xs[n]?
    | none => none) = _
  rw [ixN_nat hn]; exact h
theorem idx_lst {xs : List D} {n : Nat} {d : D} (h : xs[n]? = some d) : idx (.lst xs) (.int (n : Int)) = some d := idx_tup h
theorem fitL {n : Nat} (h : n ≤ 1000000) : fit n = true := Nat.ble_eq_true_of_le (by unfold line; omega)
theorem bin_add_tup {xs ys : List D} (h : xs.length + ys.length ≤ 1000000) : bin .add (.tup xs) (.tup ys) = some (.tup (xs ++ ys)) := by
  show (if fit (xs.length + ys.length) = true then some (D.tup (xs ++ ys)) else none) = _
  rw [if_pos (fitL h)]
theorem idxt0 {a : D} {l : List D} : idx (.tup (a :: l)) (.int 0) = some a := idx_tup (n := 0) rfl
theorem idxt1 {a b : D} {l : List D} : idx (.tup (a :: b :: l)) (.int 1) = some b := idx_tup (n := 1) rfl
theorem idxt2 {a b c : D} {l : List D} : idx (.tup (a :: b :: c :: l)) (.int 2) = some c := idx_tup (n := 2) rfl
theorem idxl0 {a : D} {l : List D} : idx (.lst (a :: l)) (.int 0) = some a := idx_lst (n := 0) rfl
theorem idxl1 {a b : D} {l : List D} : idx (.lst (a :: b :: l)) (.int 1) = some b := idx_lst (n := 1) rfl
section
variable {F : Fns} {md : Md} {a b c : E} {es : List E} {env : Env} {st st1 st2 : Store} {x y r : D} {ds : List D}
theorem ev_tup (h : evs F .kept es env st = .ok ds st1) (hf : fit ds.length = true) : ev F md (.tup es) env st = .ok (.tup ds) st1 := by
  rw [ev, h]
  show (if fit ds.length = true then R.ok (D.tup ds) st1 else .bad) = _
  rw [if_pos hf]
theorem ev_list (h : evs F .kept es env st = .ok ds st1) (hf : fit ds.length = true) : ev F md (.list es) env st = .ok (.lst ds) st1 := by
  rw [ev, h]
  show (if fit ds.length = true then R.ok (D.lst ds) st1 else .bad) = _
  rw [if_pos hf]
theorem ev_call {f : Nat} {q : R D} (h : evs F .kept es env st = .ok ds st1) (h2 : F.fn f ds st1 = q) : ev F md (.call f es) env st = q := by
  rw [ev, h]
  exact h2
theorem ev_bin {o : Op} (h1 : ev F .read a env st = .ok x st1) (h2 : ev F .read b env st1 = .ok y st2) (h : bin o (res st2 x) (res st2 y) = some r) : ev F md (.bin o a b) env st = .ok r st2 := by
  rw [ev, h1]
  show (ev F .read b env st1).bind _ = _
  rw [h2]
  show R.of (bin o (res st2 x) (res st2 y)) st2 = _
  rw [h]
  rfl
theorem ev_idx (h1 : ev F .read a env st = .ok x st1) (h2 : ev F .kept b env st1 = .ok y st2) (h : idx (res st2 x) y = some r) : ev F md (.idx a b) env st = .ok r st2 := by
  rw [ev, h1]
  show (ev F .kept b env st1).bind _ = _
  rw [h2]
  show R.of (idx (res st2 x) y) st2 = _
  rw [h]
  rfl
theorem ev_ite_t (h : ev F .read c env st = .ok (.bl true) st1) : ev F md (.ite c a b) env st = ev F .kept a env st1 := by
  rw [ev, h]; rfl
theorem ev_ite_f (h : ev F .read c env st = .ok (.bl false) st1) : ev F md (.ite c a b) env st = ev F .kept b env st1 := by
  rw [ev, h]; rfl
theorem ev_rng1 {n : Nat} (hmd : md = .iter ∨ md = .walk) (h : ev F .kept a env st = .ok (.int (n : Int)) st1) (hn : n ≤ 1000000) : ev F md (.rng [a]) env st = .ok (.lst (rngL 0 1 n)) st1 := by
  have e : evs F .kept [a] env st = .ok [.int (n : Int)] st1 := by rw [evs, h]; rfl
  have i : inI 62 (n : Int) = true := inI_nat (by omega)
  have r : rngF [.int (n : Int)] = some (.lst (rngL 0 1 n)) := by
    show (if (inI 62 (n : Int) && fit (n : Int).toNat) = true then some (D.lst (rngL 0 1 (n : Int).toNat)) else none) = _
    rw [i, show (n : Int).toNat = n from Int.toNat_natCast n, fitL hn]; rfl
  rcases hmd with rfl | rfl
  · rw [ev, e]
    · show R.of (rngF [.int (n : Int)]) st1 = _
      rw [r]; rfl
    all_goals (intro q; cases q)
  · rw [ev, e]
    · show R.of (rngF [.int (n : Int)]) st1 = _
      rw [r]; rfl
    all_goals (intro q; cases q)
theorem ev_bi2 {bi : Bi} (h1 : ev F .read a env st = .ok x st1) (h2 : ev F .read b env st1 = .ok y st2) (hr : biF bi [res st2 x, res st2 y] = some r) : ev F md (.bi bi [a, b]) env st = .ok r st2 := by
  rw [ev, evs2 h1 h2]
  show R.of (biF bi [res st2 x, res st2 y]) st2 = _
  rw [hr]; rfl
theorem ev_slc_lo (h1 : ev F .read a env st = .ok x st1) (h2 : ev F .kept b env st1 = .ok y st2) (h : slc (res st2 x) [y] [] = some r) : ev F md (.slc a [b] []) env st = .ok r st2 := by
  rw [ev, h1]
  show (evs F .kept [b] env st1).bind _ = _
  rw [evs1 h2]
  show R.of (slc (res st2 x) [y] []) st2 = _
  rw [h]; rfl
theorem ev_slc_hi (h1 : ev F .read a env st = .ok x st1) (h2 : ev F .kept b env st1 = .ok y st2) (h : slc (res st2 x) [] [y] = some r) : ev F md (.slc a [] [b]) env st = .ok r st2 := by
  simp [ev, h1, evs, R.bind, h2, R.of, h]
theorem ex_asg {i : Nat} {e : E} (h : ev F .kept e env st = .ok x st1) (hi : i < env.length) (hl : ∀ q, env[i]? ≠ some (.lck q)) : ex F (.asg (.name i) e) env st = .next (env.set i (.val x)) st1 := by
  rw [ex, h]
  show (match bind (.name i) x env with
    | some env => RS.next env st1
    | none => .bad) = _
  rw [bind_name hi hl]
theorem ex_append {i : Nat} {e : E} {xs : List D} (ho : env[i]? = some (.own (.lst xs))) (h : ev F .kept e env st = .ok x st1) (hf : xs.length ≤ 999999) : ex F (.append i e) env st = .next (env.set i (.own (.lst (xs ++ [x])))) st1 := by
  have hl : lstAt env i st = true := by unfold lstAt; rw [ho]
  rw [ex, if_pos hl, h]
  show (match env[i]? with
    | some (.own (.lst xs)) => if fit (xs.length + 1) then RS.next (env.set i (.own (.lst (xs ++ [x])))) st1 else .bad
    | some (.val (.loc n)) => _
    | _ => .bad) = _
  rw [ho]
  show (if fit (xs.length + 1) = true then _ else _) = _
  rw [if_pos (fitL (by omega))]
end
/-- a comprehension with a condition -/
theorem lc_filt {turn : D → Store → R (Option D)} {p : D → Bool} {g : D → D} {st : Store} : ∀ (xs acc : List D), (∀ x ∈ xs, turn x st = .ok (if p x then some (g x) else none) st) → lcGo turn xs acc st = .ok (.lst (acc ++ (xs.filter p).map g)) st
  | [], acc, _ => by show R.ok (D.lst acc) st = _; simp
  | x :: xs, acc, h => by
    show (turn x st).bind _ = _
    rw [h x List.mem_cons_self]
    by_cases c : p x = true
    · rw [if_pos c]
      show lcGo turn xs (acc ++ [g x]) st = _
      rw [lc_filt xs (acc ++ [g x]) fun y hy => h y (List.mem_cons_of_mem _ hy), List.filter_cons_of_pos c]
      simp
    · rw [if_neg c]
      show lcGo turn xs acc st = _
      rw [lc_filt xs acc fun y hy => h y (List.mem_cons_of_mem _ hy), List.filter_cons_of_neg c]
theorem ev_lcf {F : Fns} {md : Md} {elt it c : E} {vs : List Nat} {t : T} {env : Env} {st st' : Store} {d : D} {xs : List D} {p : D → Bool} {g : D → D} (h : ev F .iter it env st = .ok d st') (hi : iterOf d = some xs)
    (hg : ∀ x ∈ xs, ∃ env2, bind t x (wipe env vs) = some env2 ∧ ev F .read c env2 st' = .ok (.bl (p x)) st' ∧ (p x = true → ev F .kept elt env2 st' = .ok (g x) st')) : ev F md (.lc elt vs t it [c]) env st = .ok (.lst ((xs.filter p).map g)) st' := by
  unfold ev
  rw [h]
  show (match iterOf d with
    | some xs => lcGo _ xs [] st'
    | none => .bad) = _
  rw [hi]
  show lcGo _ xs [] st' = _
  rw [lc_filt (p := p) (g := g) xs []]
  · simp
  · intro x hx
    obtain ⟨env2, e1, e2, e3⟩ := hg x hx
    by_cases q : p x = true
    · simp [e1, evs, R.bind, e2, e3 q, q]
    · rw [Bool.not_eq_true] at q
      simp [e1, evs, R.bind, e2, q]
structure Pg0 (Pr : Prog) : Prop where
  whole : Pr.fn Df.n_is_whole = some Df.d_is_whole
  beats : Pr.fn Df.n_are_beats = some Df.d_are_beats
  game : Pr.fn Df.n_good_game = some Df.d_good_game
  ngame : Pr.fn Df.n_need_game = some Df.d_need_game
structure Pg (Pr : Prog) : Prop extends Pg0 Pr where
  cuts : Pr.fn Df.n_are_cuts = some Df.d_are_cuts
  due : Pr.fn Df.n_due_of = some Df.d_due_of
  gfrom : Pr.fn Df.n_good_from = some Df.d_good_from
  gplan : Pr.fn Df.n_good_plan = some Df.d_good_plan
  nplan : Pr.fn Df.n_need_plan = some Df.d_need_plan
theorem whole_t {Pr : Prog} (h : Pr.fn Df.n_is_whole = some Df.d_is_whole) (k : Nat) {x lo hi : Int} (h1 : lo ≤ x) (h2 : x ≤ hi) (st : Store) : (run Pr (k + 1)).fn 74 [.int x, .int lo, .int hi] st = .ok (.bl true) st := by
  have := is_whole_ok h k x lo hi st
  rw [decide_eq_true h1, decide_eq_true h2] at this
  exact this
theorem due_gen {Pr : Prog} {f : Nat} (h : Pr.fn f = some Df.d_due_of) (k L : Nat) (put : List (List Nat)) (st : Store) : (run Pr (k + 1)).fn f [.int L, .tup (pds put)] st = .ok (.tup (nds (due L put))) st := by
  rw [run_fn h, call_ret (r := .tup (nds (due L put))) (st' := st) rfl ?_, trunc_same]
  show exs _ _ [.val (.int L), .val (.tup (pds put))] st = _
  unfold Df.d_due_of
  refine exs_ret (ex_ret ?_)
  unfold due
  by_cases c : L < put.length
  · rw [if_pos c]
    have hl : put.length - 1 - L < put.length := by omega
    rw [List.getElem?_eq_getElem hl, Option.getD_some]
    have e : ((put.length : Int) - 1 - (L : Int)) = ((put.length - 1 - L : Nat) : Int) := by omega
    have hi : idx (.tup (pds put)) (.int ((put.length : Int) - 1 - (L : Int))) = some (.tup (nds put[put.length - 1 - L])) := by
      rw [e]; exact idx_tup (by rw [pds_get, List.getElem?_eq_getElem hl]; rfl)
    simp [Mi.ex, Mi.exs, Mi.ev, Mi.evs, Mi.R.bind, Mi.R.toS, Mi.R.toSs, Mi.R.toX, Mi.R.of, Mi.biF, Mi.cmp, Mi.res, Mi.bin, Mi.iterOf, Mi.rngF, Mi.bind, Mi.binds, Mi.wipe, Mi.freeAt, Mi.idxt0, Mi.idxt1, Mi.idxt2, Mi.idxl0, Mi.idxl1, Mi.okE, Mi.fit0, Mi.fit1, Mi.fit2, Mi.fit3, Mi.fit4, Mi.fit5, Mi.fit6, Mi.fit7, Mi.fit8, Mi.fit9, pds_len, c, hi]
  · rw [if_neg c]
    simp [Mi.ex, Mi.exs, Mi.ev, Mi.evs, Mi.R.bind, Mi.R.toS, Mi.R.toSs, Mi.R.toX, Mi.R.of, Mi.biF, Mi.cmp, Mi.res, Mi.bin, Mi.iterOf, Mi.rngF, Mi.bind, Mi.binds, Mi.wipe, Mi.freeAt, Mi.idxt0, Mi.idxt1, Mi.idxt2, Mi.idxl0, Mi.idxl1, Mi.okE, Mi.fit0, Mi.fit1, Mi.fit2, Mi.fit3, Mi.fit4, Mi.fit5, Mi.fit6, Mi.fit7, Mi.fit8, Mi.fit9, pds_len, c, nds]
theorem map_int (c : List Nat) : (nds c).map (fun x => x) = nds c := List.map_id' _
theorem filt_nds (c : List Nat) (t : Nat) : (nds c).filter (fun x => match x with | .int i => decide (i ≤ (t : Int)) | _ => false) = nds (c.filter fun x => decide (x ≤ t)) := by
  induction c with
  | nil => rfl
  | cons x c ih =>
    show List.filter _ (D.int (x : Int) :: nds c) = _
    by_cases q : x ≤ t
    · rw [List.filter_cons_of_pos (by simp; omega), ih, List.filter_cons_of_pos (by simp; omega)]
      rfl
    · rw [List.filter_cons_of_neg (by simp; omega), ih, List.filter_cons_of_neg (by simp; omega)]
theorem answer_to_ok {Pr : Prog} (h : Pr.fn Df.n_answer_to = some Df.d_answer_to) (k t : Nat) (c : List Nat) (st : Store) : (run Pr (k + 1)).fn 40 [.tup (nds c), .int t] st = .ok (.int (ans c t)) st := by
  rw [show (40 : Nat) = Df.n_answer_to from rfl, run_fn h, call_ret (r := .int (ans c t)) (st' := st) rfl ?_, trunc_same]
  show exs _ _ [.val (.tup (nds c)), .val (.int t), .emp] st = _
  unfold Df.d_answer_to
  refine exs_ret (ex_ret ?_)
  refine ev_bi1 (d := .lst (nds (c.filter fun x => decide (x ≤ t)))) (st1 := st) ?_ ?_
  · rw [← filt_nds, ← List.map_id' (List.filter _ (nds c))]
    refine ev_lcf (d := .tup (nds c)) (p := fun x => match x with | .int i => decide (i ≤ (t : Int)) | _ => false) (g := fun x => x) rfl rfl fun x hx => ?_
    obtain ⟨n, hn, rfl⟩ := mem_nds hx
    exact ⟨_, rfl, rfl, fun _ => rfl⟩
  · show some (D.int ((nds _).length : Int)) = _
    rw [nds_len]; rfl
theorem sum_ans (c : List Nat) (t : Nat) : asInts ((nds c).map (fun x => match x with | .int i => D.int (if i ≤ (t : Int) then 1 else 0) | _ => .non)) = some (c.map fun x => if x ≤ t then (1 : Int) else 0) := by
  induction c with
  | nil => rfl
  | cons x c ih =>
    show (match asInts (List.map _ (nds c)) with
      | some bs => some (_ :: bs)
      | none => none) = _
    rw [ih]
    have : ((x : Int) ≤ (t : Int)) ↔ x ≤ t := by omega
    show some ((if (x : Int) ≤ (t : Int) then (1 : Int) else 0) :: _) = _
    simp only [this, List.map_cons]
theorem sum_ans2 (t : Nat) : ∀ c : List Nat, (c.map fun x => if x ≤ t then (1 : Int) else 0).sum = (ans c t : Int)
  | [] => rfl
  | x :: c => by
    have ih := sum_ans2 t c
    unfold ans at ih ⊢
    by_cases q : x ≤ t
    · simp [q, ih]; omega
    · simp [q, ih]
theorem reply_ok {Pr : Prog} (h : Pr.fn Df.n__law_reply = some Df.d__law_reply) (k t : Nat) (c : List Nat) (st : Store) : (run Pr (k + 1)).fn 27 [.tup (nds c), .int t] st = .ok (.int (ans c t)) st := by
  rw [show (27 : Nat) = Df.n__law_reply from rfl, run_fn h, call_ret (r := .int (ans c t)) (st' := st) rfl ?_, trunc_same]
  show exs _ _ [.val (.tup (nds c)), .val (.int t), .emp] st = _
  unfold Df.d__law_reply
  refine exs_ret (ex_ret ?_)
  refine ev_bi1 (d := .lst ((nds c).map (fun x => match x with | .int i => D.int (if i ≤ (t : Int) then 1 else 0) | _ => .non))) (st1 := st) ?_ ?_
  · refine ev_lc (d := .tup (nds c)) rfl rfl fun x hx => ?_
    obtain ⟨n, hn, rfl⟩ := mem_nds hx
    refine ⟨_, rfl, ?_⟩
    by_cases q : (n : Int) ≤ (t : Int)
    · simp [Mi.ex, Mi.exs, Mi.ev, Mi.evs, Mi.R.bind, Mi.R.toS, Mi.R.toSs, Mi.R.toX, Mi.R.of, Mi.biF, Mi.cmp, Mi.res, Mi.bin, Mi.iterOf, Mi.rngF, Mi.bind, Mi.binds, Mi.wipe, Mi.freeAt, Mi.idxt0, Mi.idxt1, Mi.idxt2, Mi.idxl0, Mi.idxl1, Mi.okE, Mi.fit0, Mi.fit1, Mi.fit2, Mi.fit3, Mi.fit4, Mi.fit5, Mi.fit6, Mi.fit7, Mi.fit8, Mi.fit9, q]
    · simp [Mi.ex, Mi.exs, Mi.ev, Mi.evs, Mi.R.bind, Mi.R.toS, Mi.R.toSs, Mi.R.toX, Mi.R.of, Mi.biF, Mi.cmp, Mi.res, Mi.bin, Mi.iterOf, Mi.rngF, Mi.bind, Mi.binds, Mi.wipe, Mi.freeAt, Mi.idxt0, Mi.idxt1, Mi.idxt2, Mi.idxl0, Mi.idxl1, Mi.okE, Mi.fit0, Mi.fit1, Mi.fit2, Mi.fit3, Mi.fit4, Mi.fit5, Mi.fit6, Mi.fit7, Mi.fit8, Mi.fit9, q]
  · show (asInts _).map (fun bs => D.int bs.sum) = _
    rw [sum_ans]
    show some (D.int _) = _
    rw [sum_ans2]
theorem are_beats_ok' {Pr : Prog} (hw : Pr.fn Df.n_is_whole = some Df.d_is_whole) (hbb : Pr.fn Df.n_are_beats = some Df.d_are_beats) (k m : Nat) (bs : List Nat) (hb : ∀ b ∈ bs, b ≤ 3) (hm : bs.length ≤ m) (st : Store) : (run Pr (k + 2)).fn Df.n_are_beats [.tup (nds bs), .int m] st = .ok (.bl true) st := by
  rw [run_fn hbb, call_ret (r := .bl true) (st' := st) rfl ?_, trunc_same]
  show exs _ _ [.val (.tup (nds bs)), .val (.int m), .emp] st = _
  unfold Df.d_are_beats
  refine exs_ret (ex_ret ?_)
  have e : ev (run Pr (k + 1)) .read (.lc (.call 74 [.var 2, .con (.int 0), .glob [] (.int 3)]) [2] (.name 2) (.var 0) []) [.val (.tup (nds bs)), .val (.int m), .emp] st = .ok (.lst ((nds bs).map fun _ => D.bl true)) st := by
    refine ev_lc (d := .tup (nds bs)) rfl rfl fun x hx => ?_
    obtain ⟨n, hn, rfl⟩ := mem_nds hx
    exact ⟨_, rfl, whole_t hw k (by omega) (by have := hb n hn; omega) st⟩
  rw [ev_and_t (st1 := st) rfl]
  have e2 : ev (run Pr (k + 1)) .read (.cmp .le (.bi .len [.var 0]) (.var 1)) [.val (.tup (nds bs)), .val (.int m), .emp] st = .ok (.bl true) st := by
    refine ev_cmp (x := .int (nds bs).length) (y := .int m) (st1 := st) rfl rfl ?_
    show some (D.bl (decide (((nds bs).length : Int) ≤ (m : Int)))) = _
    rw [nds_len, decide_eq_true (by omega)]
  rw [ev_and_t e2]
  refine ev_bi1 e ?_
  show (asBls ((nds bs).map fun _ => D.bl true)).map (fun bs => D.bl (bs.all id)) = _
  rw [asBls_true]
  show some (D.bl _) = _
  rw [all_rep]
theorem good_game_ok' {Pr : Prog} (h : Pg0 Pr) (k : Nat) {T L : Nat} {bs : List Nat} (g : Game T L bs) (st : Store) : (run Pr (k + 3)).fn 62 [gm T L bs] st = .ok (.bl true) st := by
  rw [show (62 : Nat) = Df.n_good_game from rfl, run_fn h.game, call_ret (r := .bl true) (st' := st) rfl ?_, trunc_same]
  show exs _ _ [.val (gm T L bs)] st = _
  unfold Df.d_good_game gm
  have w1 := whole_t h.whole (k + 1) (x := T) (lo := 1) (hi := 64) (by have := g.t1; omega) (by have := g.t2; omega) st
  have w2 := whole_t h.whole (k + 1) (x := L) (lo := 0) (hi := 5) (by omega) (by have := g.l; omega) st
  have w3 := are_beats_ok' h.whole h.beats k 8 bs g.b g.n st
  rw [exs_next (env' := [.val (.tup [.int T, .int L, .tup (nds bs)])]) (st' := st) rfl]
  refine exs_ret (ex_ret ?_)
  have v1 : ev (run Pr (k + 2)) .read (.call 74 [.idx (.var 0) (.con (.int 0)), .con (.int 1), .glob [] (.int 64)]) [.val (.tup [.int T, .int L, .tup (nds bs)])] st = .ok (.bl true) st := w1
  have v2 : ev (run Pr (k + 2)) .read (.call 74 [.idx (.var 0) (.con (.int 1)), .con (.int 0), .glob [] (.int 5)]) [.val (.tup [.int T, .int L, .tup (nds bs)])] st = .ok (.bl true) st := w2
  rw [ev_and_t v1, ev_and_t v2]
  exact w3
theorem need_game_ok {Pr : Prog} (h : Pg0 Pr) (k : Nat) {T L : Nat} {bs : List Nat} (g : Game T L bs) (st : Store) : (run Pr (k + 4)).fn 86 [gm T L bs] st = .ok .non st := by
  rw [show (86 : Nat) = Df.n_need_game from rfl, run_fn h.ngame, call_next (st' := st) (env := [.val (gm T L bs)]) rfl ?_, trunc_same]
  show exs _ _ [.val (gm T L bs)] st = _
  unfold Df.d_need_game
  have e := good_game_ok' h k g st
  rw [exs_next (env' := [.val (gm T L bs)]) (st' := st) (by simp [Mi.ex, Mi.exs, Mi.ev, Mi.evs, Mi.R.bind, Mi.R.toS, Mi.R.toSs, Mi.R.toX, Mi.R.of, Mi.biF, Mi.cmp, Mi.res, Mi.idx, Mi.bin, Mi.iterOf, Mi.rngF, Mi.bind, Mi.binds, Mi.freeAt, Mi.okE, Mi.fit0, Mi.fit1, Mi.fit2, Mi.fit3, Mi.fit4, Mi.fit5, Mi.fit6, Mi.fit7, Mi.fit8, Mi.fit9, e])]
  rfl
theorem zip_up : ∀ {c : List Nat}, c.Pairwise (· < ·) → ∀ x ∈ zipL (nds c) ((nds c).drop 1), ∃ a b : Nat, x = .tup [.int (a : Int), .int (b : Int)] ∧ a < b
  | [], _, x, h => by cases h
  | [a], _, x, h => by cases h
  | a :: b :: c, hp, x, h => by
    have h : x ∈ D.tup [.int (a : Int), .int (b : Int)] :: zipL (nds (b :: c)) ((nds (b :: c)).drop 1) := h
    rcases List.mem_cons.mp h with rfl | h
    · exact ⟨a, b, rfl, List.rel_of_pairwise_cons hp List.mem_cons_self⟩
    · exact zip_up (List.Pairwise.of_cons hp) x h
theorem are_cuts_okW {Pr : Prog} (hw : Pr.fn Df.n_is_whole = some Df.d_is_whole) (hcu : Pr.fn Df.n_are_cuts = some Df.d_are_cuts) (k T b : Nat) (c : List Nat) (hc : CutsOk T b c) (hb : b ≤ 1000) (st : Store) : (run Pr (k + 2)).fn 44 [.int T, .int b, .tup (nds c)] st = .ok (.bl true) st := by
  rw [show (44 : Nat) = Df.n_are_cuts from rfl, run_fn hcu, call_ret (r := .bl true) (st' := st) rfl ?_, trunc_same]
  show exs _ _ [.val (.int T), .val (.int b), .val (.tup (nds c)), .emp, .emp] st = _
  unfold Df.d_are_cuts
  have e1 : ev (run Pr (k + 1)) .read (.lc (.call 74 [.var 3, .con (.int 1), .bin .sub (.var 0) (.con (.int 1))]) [3] (.name 3) (.var 2) []) [.val (.int T), .val (.int b), .val (.tup (nds c)), .emp, .emp] st = .ok (.lst ((nds c).map fun _ => D.bl true)) st := by
    refine ev_lc (d := .tup (nds c)) rfl rfl fun x hx => ?_
    obtain ⟨n, hn, rfl⟩ := mem_nds hx
    exact ⟨_, rfl, whole_t hw k (x := n) (lo := 1) (hi := (T : Int) - 1) (by have := (hc.rng n hn).1; omega) (by have := (hc.rng n hn).2; omega) st⟩
  have e2 : ev (run Pr (k + 1)) .read (.bi .all [.lc (.call 74 [.var 3, .con (.int 1), .bin .sub (.var 0) (.con (.int 1))]) [3] (.name 3) (.var 2) []]) [.val (.int T), .val (.int b), .val (.tup (nds c)), .emp, .emp] st = .ok (.bl true) st := by
    refine ev_bi1 e1 ?_
    show (asBls ((nds c).map fun _ => D.bl true)).map (fun bs => D.bl (bs.all id)) = _
    rw [asBls_true]
    show some (D.bl _) = _
    rw [all_rep]
  have e3 : ev (run Pr (k + 1)) .read (.cmp .gt (.bi .len [.var 2]) (.var 1)) [.val (.int T), .val (.int b), .val (.tup (nds c)), .emp, .emp] st = .ok (.bl false) st := by
    refine ev_cmp (x := .int (nds c).length) (y := .int b) (st1 := st) rfl rfl ?_
    show some (D.bl (decide ((b : Int) < ((nds c).length : Int)))) = _
    rw [nds_len, decide_eq_false (by have := hc.len; omega)]
  rw [exs_next (env' := [.val (.int T), .val (.int b), .val (.tup (nds c)), .emp, .emp]) (st' := st) (by
    rw [ex_ite_f (st1 := st) ?_]
    · rfl
    · rw [ev_or_f (st1 := st) rfl]
      show ev _ _ (.or _ _) _ _ = _
      rw [ev_or_f e3]
      exact ev_not (x := true) e2)]
  refine exs_ret (ex_ret ?_)
  have z : ev (run Pr (k + 1)) .iter (.zip [.var 2, .slc (.var 2) [.con (.int 1)] []]) [.val (.int T), .val (.int b), .val (.tup (nds c)), .emp, .emp] st = .ok (.lst (zipL (nds c) ((nds c).drop 1))) st := by
    have s1 : slc (.tup (nds c)) [.int 1] [] = some (.tup ((nds c).drop 1)) := by
      show some (D.tup (cut (nds c) (some ((1 : Nat) : Int)) none)) = _
      rw [cut_drop]
    have f1 : fit (nds c).length = true := fitL (by rw [nds_len]; have := hc.len; omega)
    simp [Mi.ex, Mi.exs, Mi.ev, Mi.evs, Mi.R.bind, Mi.R.toS, Mi.R.toSs, Mi.R.toX, Mi.R.of, Mi.biF, Mi.cmp, Mi.res, Mi.idx, Mi.bin, Mi.iterOf, Mi.rngF, Mi.bind, Mi.binds, Mi.freeAt, Mi.okE, Mi.fit0, Mi.fit1, Mi.fit2, Mi.fit3, Mi.fit4, Mi.fit5, Mi.fit6, Mi.fit7, Mi.fit8, Mi.fit9, s1, zipF, f1, unrow]
  have e4 : ev (run Pr (k + 1)) .read (.lc (.cmp .lt (.var 3) (.var 4)) [3, 4] (.tup [.name 3, .name 4]) (.zip [.var 2, .slc (.var 2) [.con (.int 1)] []]) []) [.val (.int T), .val (.int b), .val (.tup (nds c)), .emp, .emp] st = .ok (.lst ((zipL (nds c) ((nds c).drop 1)).map fun _ => D.bl true)) st := by
    refine ev_lc z rfl fun x hx => ?_
    obtain ⟨a, b', rfl, hab⟩ := zip_up hc.up x hx
    refine ⟨_, rfl, ?_⟩
    have : (a : Int) < (b' : Int) := by omega
    simp [Mi.ex, Mi.exs, Mi.ev, Mi.evs, Mi.R.bind, Mi.R.toS, Mi.R.toSs, Mi.R.toX, Mi.R.of, Mi.biF, Mi.cmp, Mi.res, Mi.bin, Mi.iterOf, Mi.rngF, Mi.bind, Mi.binds, Mi.wipe, Mi.freeAt, Mi.idxt0, Mi.idxt1, Mi.idxt2, Mi.idxl0, Mi.idxl1, Mi.okE, Mi.fit0, Mi.fit1, Mi.fit2, Mi.fit3, Mi.fit4, Mi.fit5, Mi.fit6, Mi.fit7, Mi.fit8, Mi.fit9, this]
  refine ev_bi1 e4 ?_
  show (asBls ((zipL (nds c) ((nds c).drop 1)).map fun _ => D.bl true)).map (fun bs => D.bl (bs.all id)) = some (.bl true)
  rw [asBls_true]
  show some (D.bl _) = _
  rw [all_rep]
theorem are_cuts_ok {Pr : Prog} (h : Pg Pr) (k T b : Nat) (c : List Nat) (hc : CutsOk T b c) (hb : b ≤ 1000) (st : Store) : (run Pr (k + 2)).fn 44 [.int T, .int b, .tup (nds c)] st = .ok (.bl true) st := are_cuts_okW h.whole h.cuts k T b c hc hb st
end Mi

set_option Elab.async false
set_option linter.all false
set_option maxRecDepth 100000
set_option maxHeartbeats 0
namespace L09
open PySem PySem.Spec PyProof.Rows L2 Mi
abbrev pw : Program := PySem.Challenge.pw_askahead_k09_refused
def top (i : Nat) : Stmt := pw.main.body.getD i (.Pass ⟨0, 0, 0, 0⟩)
def i__wall : DI := ⟨"_wall", 39, top 0, ["k"], ["k"], Df.d__wall, none, "_wall"⟩
def i_is_whole : DI := ⟨"is_whole", 74, top 21, ["thing", "low", "high"], ["thing", "low", "high"], Df.d_is_whole, none, "is_whole"⟩
def i_are_beats : DI := ⟨"are_beats", 43, top 22, ["thing", "many", "one"], ["thing", "many"], Df.d_are_beats, none, "are_beats"⟩
def i_good_game : DI := ⟨"good_game", 62, top 23, ["thing"], ["thing"], Df.d_good_game, none, "good_game"⟩
def i_is_game : DI := ⟨"is_game", 69, top 24, ["thing"], ["thing"], Df.d_is_game, none, "is_game"⟩
def i_need_game : DI := ⟨"need_game", 86, top 25, ["game"], ["game"], Df.d_need_game, none, "need_game"⟩
def i_are_cuts : DI := ⟨"are_cuts", 44, top 26, ["things", "many", "thing", "one", "other"], ["things", "many", "thing"], Df.d_are_cuts, none, "are_cuts"⟩
def i_due_of : DI := ⟨"due_of", 52, top 27, ["late", "put"], ["late", "put"], Df.d_due_of, none, "due_of"⟩
def i_good_from : DI := ⟨"good_from", 61, top 28, ["game", "put", "thing", "later", "one"], ["game", "put", "thing"], Df.d_good_from, none, "good_from"⟩
def i_good_plan : DI := ⟨"good_plan", 63, top 29, ["game", "thing"], ["game", "thing"], Df.d_good_plan, none, "good_plan"⟩
def i_is_plan : DI := ⟨"is_plan", 71, top 30, ["game", "thing"], ["game", "thing"], Df.d_is_plan, none, "is_plan"⟩
def i_need_plan : DI := ⟨"need_plan", 88, top 31, ["game", "plan"], ["game", "plan"], Df.d_need_plan, none, "need_plan"⟩
def i_need_thing : DI := ⟨"need_thing", 90, top 32, ["game", "thing"], ["game", "thing"], Df.d_need_thing, none, "need_thing"⟩
def i_most_of : DI := ⟨"most_of", 81, top 33, ["late", "beats", "known", "beat"], ["late", "beats"], Df.d_most_of, none, "most_of"⟩
def i_need_late : DI := ⟨"need_late", 87, top 34, ["late"], ["late"], Df.d_need_late, none, "need_late"⟩
def i_need_beats : DI := ⟨"need_beats", 85, top 35, ["beats"], ["beats"], Df.d_need_beats, none, "need_beats"⟩
def i_most : DI := ⟨"most", 80, top 36, ["late", "beats"], ["late", "beats"], Df.d_most, none, "most"⟩
def i_worths : DI := ⟨"worths", 115, top 37, ["late", "beats", "at", "cuts"], ["late", "beats"], Df.d_worths, none, "worths"⟩
def i_fewest : DI := ⟨"fewest", 54, top 38, ["things", "late", "cuts", "beats"], ["things", "late", "cuts"], Df.d_fewest, none, "fewest"⟩
def i_pieces_of : DI := ⟨"pieces_of", 97, top 40, ["stretch", "small", "size", "made", "first", "many"], ["stretch", "small", "size"], Df.d_pieces_of, none, "pieces_of"⟩
def i_apart_of : DI := ⟨"apart_of", 42, top 41, ["late", "left", "stretch", "many"], ["late", "left", "stretch"], Df.d_apart_of, none, "apart_of"⟩
def i_plan_from : DI := ⟨"plan_from", 98, top 42, ["late", "left", "heeded", "stretch", "pieces", "cuts", "first", "last", "on", "due", "one", "at", "lost", "piece"], ["late", "left", "heeded", "stretch"], Df.d_plan_from, none, "plan_from"⟩
def i_best : DI := ⟨"best", 47, top 43, ["game", "things", "late", "beats"], ["game"], Df.d_best, none, "best"⟩
def i_answer_to : DI := ⟨"answer_to", 40, top 45, ["cuts", "thing", "cut"], ["cuts", "thing"], Df.d_answer_to, none, "answer_to"⟩
def i_way_of : DI := ⟨"way_of", 112, top 46, ["game", "plan", "thing", "put"], ["game", "plan", "thing"], Df.d_way_of, none, "way_of"⟩
def i_answers_to : DI := ⟨"answers_to", 41, top 47, ["put", "thing", "cuts"], ["put", "thing"], Df.d_answers_to, none, "answers_to"⟩
def i_need_all : DI := ⟨"need_all", 84, top 48, ["game", "plan", "thing"], ["game", "plan", "thing"], Df.d_need_all, none, "need_all"⟩
def i_way : DI := ⟨"way", 111, top 49, ["game", "plan", "thing"], ["game", "plan", "thing"], Df.d_way, none, "way"⟩
def i_heard : DI := ⟨"heard", 66, top 50, ["game", "plan", "thing"], ["game", "plan", "thing"], Df.d_heard, none, "heard"⟩
def i_looks_of : DI := ⟨"looks_of", 79, top 51, ["game", "plan", "made", "thing", "put"], ["game", "plan"], Df.d_looks_of, none, "looks_of"⟩
def i_parts_of : DI := ⟨"parts_of", 96, top 52, ["game", "plan", "made", "thing", "look"], ["game", "plan"], Df.d_parts_of, none, "parts_of"⟩
def i_parts : DI := ⟨"parts", 95, top 53, ["game", "plan"], ["game", "plan"], Df.d_parts, none, "parts"⟩
def i_finds_all : DI := ⟨"finds_all", 55, top 54, ["game", "plan"], ["game", "plan"], Df.d_finds_all, none, "finds_all"⟩
def i_not_parted : DI := ⟨"not_parted", 92, top 55, ["game", "plan", "own"], ["game", "plan"], Df.d_not_parted, none, "not_parted"⟩
def i_narrowed : DI := ⟨"narrowed", 83, top 56, ["stretch", "cuts", "thing", "low", "high", "cut"], ["stretch", "cuts", "thing"], Df.d_narrowed, none, "narrowed"⟩
def i_idle : DI := ⟨"idle", 67, top 57, ["game", "plan", "thing", "made", "stretch", "beat", "cuts", "later"], ["game", "plan", "thing"], Df.d_idle, none, "idle"⟩
def i_Play___init__ : DI := ⟨"__init__", 120, (cst (top 59) 0), ["self", "game", "thing"], ["self", "game", "thing"], Df.d_Play___init__, (some "Play"), "Play.__init__"⟩
def i_Play_ask : DI := ⟨"ask", 121, (cst (top 59) 1), ["self", "cuts", "things", "late", "beats", "due"], ["self", "cuts"], Df.d_Play_ask, (some "Play"), "Play.ask"⟩
def i_Play_due : DI := ⟨"due", 122, (cst (top 59) 2), ["self"], ["self"], Df.d_Play_due, (some "Play"), "Play.due"⟩
def i_Play_heard : DI := ⟨"heard", 123, (cst (top 59) 3), ["self"], ["self"], Df.d_Play_heard, (some "Play"), "Play.heard"⟩
def i_Play_asked : DI := ⟨"asked", 124, (cst (top 59) 4), ["self"], ["self"], Df.d_Play_asked, (some "Play"), "Play.asked"⟩
def i_Play_waiting : DI := ⟨"waiting", 125, (cst (top 59) 5), ["self"], ["self"], Df.d_Play_waiting, (some "Play"), "Play.waiting"⟩
def i_Play_possible : DI := ⟨"possible", 126, (cst (top 59) 6), ["self"], ["self"], Df.d_Play_possible_k09, (some "Play"), "Play.possible"⟩
def i_Play_back : DI := ⟨"back", 127, (cst (top 59) 7), ["self"], ["self"], Df.d_Play_back, (some "Play"), "Play.back"⟩
def i_Play_twin : DI := ⟨"twin", 128, (cst (top 59) 8), ["self"], ["self"], Df.d_Play_twin, (some "Play"), "Play.twin"⟩
def i_Play___eq__ : DI := ⟨"__eq__", 129, (cst (top 59) 9), ["self", "other"], ["self", "other"], Df.d_Play___eq__, (some "Play"), "Play.__eq__"⟩
def i_Play___len__ : DI := ⟨"__len__", 130, (cst (top 59) 10), ["self"], ["self"], Df.d_Play___len__, (some "Play"), "Play.__len__"⟩
def i_Play___str__ : DI := ⟨"__str__", 131, (cst (top 59) 11), ["self", "cuts"], ["self"], Df.d_Play___str__, (some "Play"), "Play.__str__"⟩
def i_good_state : DI := ⟨"good_state", 65, top 64, ["thing", "one"], ["thing"], Df.d_good_state, none, "good_state"⟩
def i_is_state : DI := ⟨"is_state", 73, top 65, ["thing"], ["thing"], Df.d_is_state, none, "is_state"⟩
def i_need_state : DI := ⟨"need_state", 89, top 66, ["state"], ["state"], Df.d_need_state, none, "need_state"⟩
def i_moved : DI := ⟨"moved", 82, top 67, ["cuts", "low", "high", "cut"], ["cuts", "low", "high"], Df.d_moved, none, "moved"⟩
def i_behind_of : DI := ⟨"behind_of", 46, top 68, ["state", "cuts", "things", "late", "waiting", "beats", "edges", "made", "low", "high", "one"], ["state", "cuts"], Df.d_behind_of, none, "behind_of"⟩
def i_next_cuts : DI := ⟨"next_cuts", 91, top 69, ["state", "made", "turn", "longer", "row", "cut"], ["state"], Df.d_next_cuts, none, "next_cuts"⟩
def i_can_of : DI := ⟨"can_of", 50, top 70, ["state", "known", "things", "late", "waiting", "beats", "one", "cut", "cuts"], ["state", "known"], Df.d_can_of, none, "can_of"⟩
def i_is_good : DI := ⟨"is_good", 70, top 71, ["state", "cuts", "known", "later"], ["state", "cuts", "known"], Df.d_is_good, none, "is_good"⟩
def i_can : DI := ⟨"can", 49, top 72, ["state"], ["state"], Df.d_can, none, "can"⟩
def i_good : DI := ⟨"good", 60, top 73, ["state", "known", "cuts"], ["state"], Df.d_good, none, "good"⟩
def i_behind : DI := ⟨"behind", 45, top 74, ["state", "cuts"], ["state", "cuts"], Df.d_behind, none, "behind"⟩
def i_game_line : DI := ⟨"game_line", 58, top 77, ["game", "beats", "beat"], ["game"], Df.d_game_line, none, "game_line"⟩
def i_game_text : DI := ⟨"game_text", 59, top 78, ["game"], ["game"], Df.d_game_text, none, "game_text"⟩
def i_plan_lines : DI := ⟨"plan_lines", 101, top 79, ["late", "plan", "put", "words", "cut", "made", "answer", "one", "line"], ["late", "plan", "put"], Df.d_plan_lines, none, "plan_lines"⟩
def i_plan_in_text : DI := ⟨"plan_in_text", 100, top 80, ["game", "plan"], ["game", "plan"], Df.d_plan_in_text, none, "plan_in_text"⟩
def i_plan_text : DI := ⟨"plan_text", 102, top 81, ["game", "plan"], ["game", "plan"], Df.d_plan_text, none, "plan_text"⟩
def i_number_in : DI := ⟨"number_in", 93, top 82, ["word", "sign"], ["word"], Df.d_number_in, none, "number_in"⟩
def i_within : DI := ⟨"within", 114, top 83, ["lines", "made", "line"], ["lines"], Df.d_within, none, "within"⟩
def i_cuts_in : DI := ⟨"cuts_in", 51, top 84, ["line", "words", "word"], ["line"], Df.d_cuts_in, none, "cuts_in"⟩
def i_plans_in : DI := ⟨"plans_in", 103, top 85, ["late", "lines", "put", "made", "own"], ["late", "lines", "put"], Df.d_plans_in, none, "plans_in"⟩
def i_plan_in : DI := ⟨"plan_in", 99, top 86, ["late", "lines", "put", "cuts"], ["late", "lines", "put"], Df.d_plan_in, none, "plan_in"⟩
def i_read_plan : DI := ⟨"read_plan", 105, top 87, ["game", "text", "made"], ["game", "text"], Df.d_read_plan, none, "read_plan"⟩
def i_less_from : DI := ⟨"less_from", 77, top 89, ["lates", "plan", "put", "known", "late", "less", "beat", "made", "answer", "own", "at"], ["lates", "plan", "put", "known"], Df.d_less_from, none, "less_from"⟩
def i_for_less : DI := ⟨"for_less", 57, top 90, ["game", "plan", "late"], ["game", "plan", "late"], Df.d_for_less, none, "for_less"⟩
def i_fewer_from : DI := ⟨"fewer_from", 53, top 91, ["late", "plan", "put", "stretch", "first", "last", "due", "base", "inner", "cut", "plans", "one"], ["late", "plan", "put", "stretch"], Df.d_fewer_from, none, "fewer_from"⟩
def i_for_fewer : DI := ⟨"for_fewer", 56, top 92, ["game", "plan", "first", "last"], ["game", "plan", "first", "last"], Df.d_for_fewer, none, "for_fewer"⟩
def i_turned_from : DI := ⟨"turned_from", 110, top 93, ["things", "plan", "cuts", "cut", "one"], ["things", "plan"], Df.d_turned_from, none, "turned_from"⟩
def i_turned : DI := ⟨"turned", 109, top 94, ["game", "plan"], ["game", "plan"], Df.d_turned, none, "turned"⟩
def i__law_cell_at : DI := ⟨"_law_cell_at", 5, top 96, ["script", "k", "spare", "again"], ["script", "k"], Df.d__law_cell_at, none, "_law_cell_at"⟩
def i__law_mixed : DI := ⟨"_law_mixed", 18, top 97, ["script", "k", "bound", "spun"], ["script", "k", "bound"], Df.d__law_mixed, none, "_law_mixed"⟩
def i__law_draw : DI := ⟨"_law_draw", 8, top 98, ["script", "town", "bound"], ["script", "town", "bound"], Df.d__law_draw, none, "_law_draw"⟩
def i__law_pick : DI := ⟨"_law_pick", 25, top 99, ["script", "town", "some"], ["script", "town", "some"], Df.d__law_pick, none, "_law_pick"⟩
def i__law_ask : DI := ⟨"_law_ask", 1, top 101, ["what", "one", "two", "three", "four", "some", "e"], ["what", "one", "two", "three", "four"], Df.d__law_ask, none, "_law_ask"⟩
def i__law_numbers_refused : DI := ⟨"_law_numbers_refused", 21, top 102, ["off", "what"], [], Df.d__law_numbers_refused, none, "_law_numbers_refused"⟩
def i__law_states_refused : DI := ⟨"_law_states_refused", 35, top 103, ["some", "off", "what"], [], Df.d__law_states_refused, none, "_law_states_refused"⟩
def i__law_no_plans : DI := ⟨"_law_no_plans", 19, top 104, ["end", "two", "some"], ["end", "two"], Df.d__law_no_plans, none, "_law_no_plans"⟩
def i_law : DI := ⟨"law", 76, top 105, ["script", "town", "game", "end", "two", "plan", "some", "bad", "told", "what", "off", "pairs", "first", "last"], ["script"], Df.d_law_k09, none, "law"⟩
def errs : List EI := [⟨"NoGame", 0⟩, ⟨"NoPlan", 1⟩, ⟨"NoThing", 2⟩, ⟨"TooMany", 3⟩, ⟨"NoState", 4⟩, ⟨"NoLate", 5⟩, ⟨"NoStretch", 6⟩, ⟨"NoBeats", 7⟩, ⟨"NoText", 8⟩, ⟨"NoCuts", 9⟩, ⟨"Done", 10⟩, ⟨"Nothing", 11⟩, ⟨"NoRow", 12⟩]
def dis : List DI := [i__wall, i_is_whole, i_are_beats, i_good_game, i_is_game, i_need_game, i_are_cuts, i_due_of, i_good_from, i_good_plan, i_is_plan, i_need_plan, i_need_thing, i_most_of, i_need_late, i_need_beats, i_most, i_worths, i_fewest, i_pieces_of, i_apart_of, i_plan_from, i_best, i_answer_to, i_way_of, i_answers_to, i_need_all, i_way, i_heard, i_looks_of, i_parts_of, i_parts, i_finds_all, i_not_parted, i_narrowed, i_idle, i_Play___init__, i_Play_ask, i_Play_due, i_Play_heard, i_Play_asked, i_Play_waiting, i_Play_possible, i_Play_back, i_Play_twin, i_Play___eq__, i_Play___len__, i_Play___str__, i_good_state, i_is_state, i_need_state, i_moved, i_behind_of, i_next_cuts, i_can_of, i_is_good, i_can, i_good, i_behind, i_game_line, i_game_text, i_plan_lines, i_plan_in_text, i_plan_text, i_number_in, i_within, i_cuts_in, i_plans_in, i_plan_in, i_read_plan, i_less_from, i_for_less, i_fewer_from, i_for_fewer, i_turned_from, i_turned, i__law_cell_at, i__law_mixed, i__law_draw, i__law_pick, i__law_ask, i__law_numbers_refused, i__law_states_refused, i__law_no_plans, i_law]
def clo : List PySem.Str := ["Play"]
def i_which : DI := ⟨"_law_which", 1000, top 100, ["e", "own"], ["e"], ⟨1, 2, []⟩, none, "_law_which"⟩
def whs : List DI := [i_which]
abbrev whB : Bool := true
def exO (K : PySem.W.Frag) : Bool := exW K && exP K
theorem who : WhO whs errs whB clo exO := ⟨fun _ => by decide +kernel, fun _ K h => (and2 h).1, fun _ => ⟨i_which, List.mem_singleton.mpr rfl, rfl, rfl, rfl, fun _ _ _ _ _ _ us hl => match us, hl with | [_], _ => rfl, by decide +kernel⟩, fun _ K h => (and2 h).2⟩
def cos : List Co := [.int "THINGS_games" 64, .int "LATE_games" 5, .int "BEATS_games" 8, .int "CUTS" 3, .int "THINGS_states" 8, .int "LATE_states" 2, .int "BEATS_states" 4, .str "FIGURES" "0123456789"]
theorem bds : ∀ d ∈ dis, Bd d := by
  intro d h
  simp only [dis, List.mem_cons, List.not_mem_nil, or_false] at h
  rcases h with rfl | rfl | rfl | rfl | rfl | rfl | rfl | rfl | rfl | rfl | rfl | rfl | rfl | rfl | rfl | rfl | rfl | rfl | rfl | rfl | rfl | rfl | rfl | rfl | rfl | rfl | rfl | rfl | rfl | rfl | rfl | rfl | rfl | rfl | rfl | rfl | rfl | rfl | rfl | rfl | rfl | rfl | rfl | rfl | rfl | rfl | rfl | rfl | rfl | rfl | rfl | rfl | rfl | rfl | rfl | rfl | rfl | rfl | rfl | rfl | rfl | rfl | rfl | rfl | rfl | rfl | rfl | rfl | rfl | rfl | rfl | rfl | rfl | rfl | rfl | rfl | rfl | rfl | rfl | rfl | rfl | rfl | rfl | rfl | rfl
  · exact fun _ _ _ _ _ _ us hl => match us, hl with | [_], _ => rfl
  · exact fun _ _ _ _ _ _ us hl => match us, hl with | [_, _, _], _ => rfl
  · exact fun _ _ _ _ _ _ us hl => match us, hl with | [_, _], _ => rfl
  · exact fun _ _ _ _ _ _ us hl => match us, hl with | [_], _ => rfl
  · exact fun _ _ _ _ _ _ us hl => match us, hl with | [_], _ => rfl
  · exact fun _ _ _ _ _ _ us hl => match us, hl with | [_], _ => rfl
  · exact fun _ _ _ _ _ _ us hl => match us, hl with | [_, _, _], _ => rfl
  · exact fun _ _ _ _ _ _ us hl => match us, hl with | [_, _], _ => rfl
  · exact fun _ _ _ _ _ _ us hl => match us, hl with | [_, _, _], _ => rfl
  · exact fun _ _ _ _ _ _ us hl => match us, hl with | [_, _], _ => rfl
  · exact fun _ _ _ _ _ _ us hl => match us, hl with | [_, _], _ => rfl
  · exact fun _ _ _ _ _ _ us hl => match us, hl with | [_, _], _ => rfl
  · exact fun _ _ _ _ _ _ us hl => match us, hl with | [_, _], _ => rfl
  · exact fun _ _ _ _ _ _ us hl => match us, hl with | [_, _], _ => rfl
  · exact fun _ _ _ _ _ _ us hl => match us, hl with | [_], _ => rfl
  · exact fun _ _ _ _ _ _ us hl => match us, hl with | [_], _ => rfl
  · exact fun _ _ _ _ _ _ us hl => match us, hl with | [_, _], _ => rfl
  · exact fun _ _ _ _ _ _ us hl => match us, hl with | [_, _], _ => rfl
  · exact fun _ _ _ _ _ _ us hl => match us, hl with | [_, _, _], _ => rfl
  · exact fun _ _ _ _ _ _ us hl => match us, hl with | [_, _, _], _ => rfl
  · exact fun _ _ _ _ _ _ us hl => match us, hl with | [_, _, _], _ => rfl
  · exact fun _ _ _ _ _ _ us hl => match us, hl with | [_, _, _, _], _ => rfl
  · exact fun _ _ _ _ _ _ us hl => match us, hl with | [_], _ => rfl
  · exact fun _ _ _ _ _ _ us hl => match us, hl with | [_, _], _ => rfl
  · exact fun _ _ _ _ _ _ us hl => match us, hl with | [_, _, _], _ => rfl
  · exact fun _ _ _ _ _ _ us hl => match us, hl with | [_, _], _ => rfl
  · exact fun _ _ _ _ _ _ us hl => match us, hl with | [_, _, _], _ => rfl
  · exact fun _ _ _ _ _ _ us hl => match us, hl with | [_, _, _], _ => rfl
  · exact fun _ _ _ _ _ _ us hl => match us, hl with | [_, _, _], _ => rfl
  · exact fun _ _ _ _ _ _ us hl => match us, hl with | [_, _], _ => rfl
  · exact fun _ _ _ _ _ _ us hl => match us, hl with | [_, _], _ => rfl
  · exact fun _ _ _ _ _ _ us hl => match us, hl with | [_, _], _ => rfl
  · exact fun _ _ _ _ _ _ us hl => match us, hl with | [_, _], _ => rfl
  · exact fun _ _ _ _ _ _ us hl => match us, hl with | [_, _], _ => rfl
  · exact fun _ _ _ _ _ _ us hl => match us, hl with | [_, _, _], _ => rfl
  · exact fun _ _ _ _ _ _ us hl => match us, hl with | [_, _, _], _ => rfl
  · exact fun _ _ _ _ _ _ us hl => match us, hl with | [_, _, _], _ => rfl
  · exact fun _ _ _ _ _ _ us hl => match us, hl with | [_, _], _ => rfl
  · exact fun _ _ _ _ _ _ us hl => match us, hl with | [_], _ => rfl
  · exact fun _ _ _ _ _ _ us hl => match us, hl with | [_], _ => rfl
  · exact fun _ _ _ _ _ _ us hl => match us, hl with | [_], _ => rfl
  · exact fun _ _ _ _ _ _ us hl => match us, hl with | [_], _ => rfl
  · exact fun _ _ _ _ _ _ us hl => match us, hl with | [_], _ => rfl
  · exact fun _ _ _ _ _ _ us hl => match us, hl with | [_], _ => rfl
  · exact fun _ _ _ _ _ _ us hl => match us, hl with | [_], _ => rfl
  · exact fun _ _ _ _ _ _ us hl => match us, hl with | [_, _], _ => rfl
  · exact fun _ _ _ _ _ _ us hl => match us, hl with | [_], _ => rfl
  · exact fun _ _ _ _ _ _ us hl => match us, hl with | [_], _ => rfl
  · exact fun _ _ _ _ _ _ us hl => match us, hl with | [_], _ => rfl
  · exact fun _ _ _ _ _ _ us hl => match us, hl with | [_], _ => rfl
  · exact fun _ _ _ _ _ _ us hl => match us, hl with | [_], _ => rfl
  · exact fun _ _ _ _ _ _ us hl => match us, hl with | [_, _, _], _ => rfl
  · exact fun _ _ _ _ _ _ us hl => match us, hl with | [_, _], _ => rfl
  · exact fun _ _ _ _ _ _ us hl => match us, hl with | [_], _ => rfl
  · exact fun _ _ _ _ _ _ us hl => match us, hl with | [_, _], _ => rfl
  · exact fun _ _ _ _ _ _ us hl => match us, hl with | [_, _, _], _ => rfl
  · exact fun _ _ _ _ _ _ us hl => match us, hl with | [_], _ => rfl
  · exact fun _ _ _ _ _ _ us hl => match us, hl with | [_], _ => rfl
  · exact fun _ _ _ _ _ _ us hl => match us, hl with | [_, _], _ => rfl
  · exact fun _ _ _ _ _ _ us hl => match us, hl with | [_], _ => rfl
  · exact fun _ _ _ _ _ _ us hl => match us, hl with | [_], _ => rfl
  · exact fun _ _ _ _ _ _ us hl => match us, hl with | [_, _, _], _ => rfl
  · exact fun _ _ _ _ _ _ us hl => match us, hl with | [_, _], _ => rfl
  · exact fun _ _ _ _ _ _ us hl => match us, hl with | [_, _], _ => rfl
  · exact fun _ _ _ _ _ _ us hl => match us, hl with | [_], _ => rfl
  · exact fun _ _ _ _ _ _ us hl => match us, hl with | [_], _ => rfl
  · exact fun _ _ _ _ _ _ us hl => match us, hl with | [_], _ => rfl
  · exact fun _ _ _ _ _ _ us hl => match us, hl with | [_, _, _], _ => rfl
  · exact fun _ _ _ _ _ _ us hl => match us, hl with | [_, _, _], _ => rfl
  · exact fun _ _ _ _ _ _ us hl => match us, hl with | [_, _], _ => rfl
  · exact fun _ _ _ _ _ _ us hl => match us, hl with | [_, _, _, _], _ => rfl
  · exact fun _ _ _ _ _ _ us hl => match us, hl with | [_, _, _], _ => rfl
  · exact fun _ _ _ _ _ _ us hl => match us, hl with | [_, _, _, _], _ => rfl
  · exact fun _ _ _ _ _ _ us hl => match us, hl with | [_, _, _, _], _ => rfl
  · exact fun _ _ _ _ _ _ us hl => match us, hl with | [_, _], _ => rfl
  · exact fun _ _ _ _ _ _ us hl => match us, hl with | [_, _], _ => rfl
  · exact fun _ _ _ _ _ _ us hl => match us, hl with | [_, _], _ => rfl
  · exact fun _ _ _ _ _ _ us hl => match us, hl with | [_, _, _], _ => rfl
  · exact fun _ _ _ _ _ _ us hl => match us, hl with | [_, _, _], _ => rfl
  · exact fun _ _ _ _ _ _ us hl => match us, hl with | [_, _, _], _ => rfl
  · exact fun _ _ _ _ _ _ us hl => match us, hl with | [_, _, _, _, _], _ => rfl
  · exact fun _ _ _ _ _ _ us hl => match us, hl with | [], _ => rfl
  · exact fun _ _ _ _ _ _ us hl => match us, hl with | [], _ => rfl
  · exact fun _ _ _ _ _ _ us hl => match us, hl with | [_, _], _ => rfl
  · exact fun _ _ _ _ _ _ us hl => match us, hl with | [_], _ => rfl
theorem chks : (dis.all fun d => chkDef (gsO dis cos errs whB clo) d.N d.ps (defScope d.st) (defBody d.st) d.d 40) = true := by decide +kernel
def loose0 : List PySem.Str := ["_wall", "AskError", "NoGame", "NoPlan", "NoThing", "TooMany", "NoState", "NoLate", "NoStretch", "NoBeats", "NoText", "NoCuts", "Done", "Nothing", "NoRow", "THINGS_games", "LATE_games", "BEATS_games", "CUTS", "is_whole", "are_beats", "good_game", "is_game", "need_game", "are_cuts", "due_of", "good_from", "good_plan", "is_plan", "need_plan"]
def loose1 : List PySem.Str := ["need_thing", "most_of", "need_late", "need_beats", "most", "worths", "fewest", "pieces_of", "apart_of", "plan_from", "best", "answer_to", "way_of", "answers_to", "need_all", "way", "heard", "looks_of", "parts_of", "parts", "finds_all", "not_parted", "narrowed", "idle", "Play", "THINGS_states", "LATE_states", "BEATS_states", "good_state", "is_state"]
def loose2 : List PySem.Str := ["need_state", "moved", "behind_of", "next_cuts", "can_of", "is_good", "can", "good", "behind", "FIGURES", "game_line", "game_text", "plan_lines", "plan_in_text", "plan_text", "number_in", "within", "cuts_in", "plans_in", "plan_in", "read_plan", "less_from", "for_less", "fewer_from", "for_fewer", "turned_from", "turned", "_law_cell_at", "_law_mixed", "_law_draw"]
def loose3 : List PySem.Str := ["_law_pick", "_law_which", "_law_ask", "_law_numbers_refused", "_law_states_refused", "_law_no_plans"]
def loose : List PySem.Str := loose0 ++ loose1 ++ loose2 ++ loose3
abbrev R : PySem.W.OpenRow := PySem.W.OpenLaw.row PySem.Challenge.rw_askahead_k09_refused
abbrev lawAt : Nat := 105
def asL0 : List PySem.Addr := [3, 6, 4, 21, 31, 44, 56, 68, 80, 92, 104, 116, 128, 140, 152, 164, 176, 188, 197, 202, 209, 216, 223, 228, 235, 240, 247, 254, 261, 268, 275, 282, 289, 296, 301, 308, 315, 322, 327, 334, 339, 346, 351, 358, 365, 372, 379, 384, 391, 398, 405, 412, 419, 511, 520, 527, 534, 539, 544, 549]
def asL1 : List PySem.Addr := [554, 559, 566, 571, 578, 583, 590, 595, 602, 609, 614, 621, 626, 633, 640, 647, 654, 661, 666, 673, 678, 685, 692, 699, 706, 713, 720, 727, 732, 737, 744, 749, 0, 20, 30, 43, 55, 67, 79, 91, 103, 115, 127, 139, 151, 163, 175, 187, 196, 201, 208, 215, 222, 227, 234, 239, 246, 253, 260, 267]
def asL2 : List PySem.Addr := [274, 281, 288, 295, 300, 307, 314, 321, 326, 333, 338, 345, 350, 357, 364, 371, 378, 383, 390, 397, 404, 411, 418, 510, 519, 526, 533, 538, 543, 548, 553, 558, 565, 570, 577, 582, 589, 594, 601, 608, 613, 620, 625, 632, 639, 646, 653, 660, 665, 672, 677, 684, 691, 698, 705, 712, 719, 726, 731, 736]
def asL3 : List PySem.Addr := [743, 748, 15, 16, 17, 18, 19, 29, 32, 42, 54, 66, 78, 90, 102, 114, 126, 138, 150, 162, 174, 186, 191, 192, 193, 194, 195, 198, 199, 200, 203, 204, 205, 206, 207, 210, 211, 212, 213, 214, 217, 218, 219, 220, 221, 224, 225, 226, 229, 230, 231, 232, 233, 236, 237, 238, 241, 242, 243, 244]
def asL4 : List PySem.Addr := [245, 248, 249, 250, 251, 252, 255, 256, 257, 258, 259, 262, 263, 264, 265, 266, 269, 270, 271, 272, 273, 276, 277, 278, 279, 280, 283, 284, 285, 286, 287, 290, 291, 292, 293, 294, 297, 298, 299, 302, 303, 304, 305, 306, 309, 310, 311, 312, 313, 316, 317, 318, 319, 320, 323, 324, 325, 328, 329, 330]
def asL5 : List PySem.Addr := [331, 332, 335, 336, 337, 340, 341, 342, 343, 344, 347, 348, 349, 352, 353, 354, 355, 356, 359, 360, 361, 362, 363, 366, 367, 368, 369, 370, 373, 374, 375, 376, 377, 380, 381, 382, 385, 386, 387, 388, 389, 392, 393, 394, 395, 396, 399, 400, 401, 402, 403, 406, 407, 408, 409, 410, 413, 414, 415, 416]
def asL6 : List PySem.Addr := [417, 433, 440, 447, 454, 461, 468, 475, 482, 489, 496, 503, 508, 509, 512, 513, 516, 517, 518, 521, 522, 523, 524, 525, 528, 529, 530, 531, 532, 535, 536, 537, 540, 541, 542, 545, 546, 547, 550, 551, 552, 555, 556, 557, 560, 561, 562, 563, 564, 567, 568, 569, 572, 573, 574, 575, 576, 579, 580, 581]
def asL7 : List PySem.Addr := [584, 585, 586, 587, 588, 591, 592, 593, 596, 597, 598, 599, 600, 603, 604, 605, 606, 607, 610, 611, 612, 615, 616, 617, 618, 619, 622, 623, 624, 627, 628, 629, 630, 631, 634, 635, 636, 637, 638, 641, 642, 643, 644, 645, 648, 649, 650, 651, 652, 655, 656, 657, 658, 659, 662, 663, 664, 667, 668, 669]
def asL8 : List PySem.Addr := [670, 671, 674, 675, 676, 679, 680, 681, 682, 683, 686, 687, 688, 689, 690, 693, 694, 695, 696, 697, 700, 701, 702, 703, 704, 707, 708, 709, 710, 711, 714, 715, 716, 717, 718, 721, 722, 723, 724, 725, 728, 729, 730, 733, 734, 735, 738, 739, 740, 741, 742, 745, 746, 747, 432, 439, 446, 453, 460, 467]
def asL9 : List PySem.Addr := [474, 481, 488, 495, 502, 507]
def asL : List PySem.Addr := asL0 ++ asL1 ++ asL2 ++ asL3 ++ asL4 ++ asL5 ++ asL6 ++ asL7 ++ asL8 ++ asL9
def obG (g : PySem.Addr → Option PySem.Obj) : He.AlD × Bool := Mi.obsX (faO (dis ++ whs) cos errs clo) (fnO (dis ++ whs)) exO (He.frG g asL)
def hk : PySem.W.Hook where
  α := He.AlD × Bool
  obs := fun s => obG s.heap.get?
  val := fun _ => (He.valD (fnO (dis ++ whs)), true)
  says := (Mi.hookX 4 (faO (dis ++ whs) cos errs clo) (fnO (dis ++ whs)) exO).says
  of := fun _ _ e => ⟨_, He.frG_in, congrArg (fun z : He.AlD × Bool => z.1) e, congrArg (fun z : He.AlD × Bool => z.2) e⟩
  keeps := fun _ _ _ ⟨K, hK, c⟩ k => ⟨K, PySem.W.Frag.In.keeps hK k, c⟩
def ob (s : PySem.W.SharedT) : He.AlD × Bool := obG (HandSHeadRun.getT s)
theorem ob_eq (s : PySem.W.SharedT) : ob s = hk.obs s.abs := by
  have e : HandSHeadRun.getT s = s.abs.heap.get? := funext (HandSHeadRun.getT_eq s)
  show obG (HandSHeadRun.getT s) = obG s.abs.heap.get?
  rw [e]
theorem map3 {α β γ δ : Type} {x : Option α} {f : α → β} {g : α → γ} {h : α → δ} {a : β} {b : γ} {c : δ} (h1 : x.map f = some a) (h2 : x.map g = some b) (h3 : x.map h = some c) : x.map (fun s => (f s, g s, h s)) = some (a, b, c) := by
  cases x with
  | none => cases h1
  | some s => cases h1; cases h2; cases h3; rfl
section
open PySem PySem.W PySem.Calls PyProof.Rows HandSHeadRun
theorem run1 (w : World) (os : OsState) : (endF (stepQ (denQ tabQ) R.prog w) 6000 R.prog w os).map (fun s => looksF R.prog (boot_heap w.params) s.abs) = some true := by kernel_rfl
theorem run2 (w : World) (os : OsState) : (endF (stepQ (denQ tabQ) R.prog w) 6000 R.prog w os).map (fun s => seenQ (view R.prog [lawAt]) loose (importedModules R.prog.main.body) (fun s => xlAt (view R.prog [lawAt]) [] s && recOk R.toRowW.records s) s.abs) = some (openGood (view R.prog [lawAt]) loose) := by kernel_rfl
theorem run3 (w : World) (os : OsState) : (endF (stepQ (denQ tabQ) R.prog w) 6000 R.prog w os).map ob = some (hk.val w) := by kernel_rfl
end
theorem run (w : World) : HandSHeadRun.RunEq R (PySem.W.view R.prog [lawAt]) hk ob 6000 loose w := fun os => map3 (run1 w os) (run2 w os) (run3 w os)
theorem ends (hrun : ∀ ns : List Int, ns.length ≤ 63 → ∃ st', (Mi.run (Mi.prO dis) 40).fn i_law.num [.scr (ns.map Mi.D.int)] [] = .ok (.bl true) st') : PySem.Challenge.rw_askahead_k09_refused.Holds := by
  w_on; o_law
  refine HandSHeadRun.head_any (r := PySem.W.OpenLaw.row PySem.Challenge.rw_askahead_k09_refused) (q := PySem.W.view (PySem.W.OpenLaw.row PySem.Challenge.rw_askahead_k09_refused).prog [105]) (H := hk) (ob := ob) (M := 6000) (loose := loose) (d := HandSHeadRun.topDef (PySem.W.OpenLaw.row PySem.Challenge.rw_askahead_k09_refused).prog 105) (kwd := []) ob_eq
    (by kernel_rfl) (fun s => by kernel_rfl) run (by kernel_rfl) (by kernel_rfl) (by kernel_rfl) (by rfl) (by first | assumption | decide +kernel) (by decide +kernel) ⟨rfl, rfl, rfl, rfl, rfl, by decide +kernel⟩ ?hw ?hc
  case hw => w_witness2
  case hc => exact Mi.walk_mi (dep := 4) (l := PySem.Challenge.rw_askahead_k09_refused) (n := 63) (k := 40) (m := 40) (ds := dis) (cs := cos) (es := errs) (dl := i_law) rfl (by decide) (by kernel_rfl) ⟨rfl, by decide, by decide⟩ who (by decide +kernel) (by simp [dis]) rfl (by kernel_rfl) rfl (by decide +kernel) (by decide +kernel) bds chks hrun
end L09

set_option Elab.async false
set_option linter.all false
set_option maxRecDepth 100000
set_option maxHeartbeats 0
namespace L09
open Mi
theorem dr : Dr (Mi.prO dis) := by
  refine ⟨?_, ?_, ?_⟩ <;> rfl
abbrev Fq : Fns := Mi.run (Mi.prO dis) 39
def body : List S := Df.d_law_k09.body
def sAt (i : Nat) : S := body.getD i .pass
def emps (n : Nat) : Env := List.replicate n .emp
def envOf : RS → Env
  | .next e _ => e
  | _ => []
def sl (r : RS) (i : Nat) : Sl := (envOf r).getD i .emp
def ls : Sl → List D
  | .val (.lst l) => l
  | _ => []
def lr : Mi.R D → List D
  | .ok (.lst l) _ => l
  | _ => []
def h0 : RS := exs Fq [sAt 0, sAt 1, sAt 2, sAt 3] (emps 14) []
def gm : Sl := sl h0 2
def en : Sl := sl h0 3
def tw : Sl := sl h0 4
def pl : Sl := sl h0 5
def so : Sl := sl (exs Fq [sAt 5, sAt 6, sAt 7] (emps 14) []) 6
def some1 : List D := ls so
def dv : Sl → D
  | .val d => d
  | _ => .non
def some2 : List D := lr (Fq.fn 19 [dv en, dv tw] [.lst [.int 0]])
def ref (k : Int) : D := .tup [.str [114, 101, 102, 117, 115, 101, 100], .int k]
def told0 : Sl := .val (.lst (List.replicate 15 (ref 0)))
def told1 : Sl := .val (.lst (List.replicate 10 (ref 1)))
abbrev at0 (s : Sl) : Env := [s, .val (.loc 0), gm, en, tw, pl, so, .emp, .emp, .emp, .emp, .emp, .emp, .emp]
abbrev at1 (s : Sl) (d t : Sl) : Env := [s, .val (.loc 0), gm, en, tw, pl, so, d, t, .emp, .emp, .emp, .emp, .emp]
theorem u1 (s : Sl) : exs Fq [sAt 0, sAt 1, sAt 2, sAt 3, sAt 4, sAt 5, sAt 6, sAt 7] ([s] ++ emps 13) [] = .next (at0 s) [.lst []] := by kernel_rfl
theorem len1 : some1.length = 16 := by kernel_rfl
theorem len2 : some2.length = 17 := by kernel_rfl
theorem two (s d t : Sl) : ev Fq .kept (.call 19 [.var 3, .var 4]) (at1 s d t) [.lst [.int 0]] = .ok (.lst some2) [.lst [.int 0]] := by kernel_rfl

theorem p1_0 (s : Sl) : exs Fq [sAt 9, sAt 10] (at1 s (.val (some1.getD 0 .non)) .emp) [.lst [.int 0]] = .next (at1 s (.val (some1.getD 0 .non)) told0) [.lst [.int 0]] := by kernel_rfl
theorem p1_1 (s : Sl) : exs Fq [sAt 9, sAt 10] (at1 s (.val (some1.getD 1 .non)) .emp) [.lst [.int 0]] = .next (at1 s (.val (some1.getD 1 .non)) told0) [.lst [.int 0]] := by kernel_rfl
theorem p1_2 (s : Sl) : exs Fq [sAt 9, sAt 10] (at1 s (.val (some1.getD 2 .non)) .emp) [.lst [.int 0]] = .next (at1 s (.val (some1.getD 2 .non)) told0) [.lst [.int 0]] := by kernel_rfl
theorem p1_3 (s : Sl) : exs Fq [sAt 9, sAt 10] (at1 s (.val (some1.getD 3 .non)) .emp) [.lst [.int 0]] = .next (at1 s (.val (some1.getD 3 .non)) told0) [.lst [.int 0]] := by kernel_rfl
theorem p1_4 (s : Sl) : exs Fq [sAt 9, sAt 10] (at1 s (.val (some1.getD 4 .non)) .emp) [.lst [.int 0]] = .next (at1 s (.val (some1.getD 4 .non)) told0) [.lst [.int 0]] := by kernel_rfl
theorem p1_5 (s : Sl) : exs Fq [sAt 9, sAt 10] (at1 s (.val (some1.getD 5 .non)) .emp) [.lst [.int 0]] = .next (at1 s (.val (some1.getD 5 .non)) told0) [.lst [.int 0]] := by kernel_rfl
theorem p1_6 (s : Sl) : exs Fq [sAt 9, sAt 10] (at1 s (.val (some1.getD 6 .non)) .emp) [.lst [.int 0]] = .next (at1 s (.val (some1.getD 6 .non)) told0) [.lst [.int 0]] := by kernel_rfl
theorem p1_7 (s : Sl) : exs Fq [sAt 9, sAt 10] (at1 s (.val (some1.getD 7 .non)) .emp) [.lst [.int 0]] = .next (at1 s (.val (some1.getD 7 .non)) told0) [.lst [.int 0]] := by kernel_rfl
theorem p1_8 (s : Sl) : exs Fq [sAt 9, sAt 10] (at1 s (.val (some1.getD 8 .non)) .emp) [.lst [.int 0]] = .next (at1 s (.val (some1.getD 8 .non)) told0) [.lst [.int 0]] := by kernel_rfl
theorem p1_9 (s : Sl) : exs Fq [sAt 9, sAt 10] (at1 s (.val (some1.getD 9 .non)) .emp) [.lst [.int 0]] = .next (at1 s (.val (some1.getD 9 .non)) told0) [.lst [.int 0]] := by kernel_rfl
theorem p1_10 (s : Sl) : exs Fq [sAt 9, sAt 10] (at1 s (.val (some1.getD 10 .non)) .emp) [.lst [.int 0]] = .next (at1 s (.val (some1.getD 10 .non)) told0) [.lst [.int 0]] := by kernel_rfl
theorem p1_11 (s : Sl) : exs Fq [sAt 9, sAt 10] (at1 s (.val (some1.getD 11 .non)) .emp) [.lst [.int 0]] = .next (at1 s (.val (some1.getD 11 .non)) told0) [.lst [.int 0]] := by kernel_rfl
theorem p1_12 (s : Sl) : exs Fq [sAt 9, sAt 10] (at1 s (.val (some1.getD 12 .non)) .emp) [.lst [.int 0]] = .next (at1 s (.val (some1.getD 12 .non)) told0) [.lst [.int 0]] := by kernel_rfl
theorem p1_13 (s : Sl) : exs Fq [sAt 9, sAt 10] (at1 s (.val (some1.getD 13 .non)) .emp) [.lst [.int 0]] = .next (at1 s (.val (some1.getD 13 .non)) told0) [.lst [.int 0]] := by kernel_rfl
theorem p1_14 (s : Sl) : exs Fq [sAt 9, sAt 10] (at1 s (.val (some1.getD 14 .non)) .emp) [.lst [.int 0]] = .next (at1 s (.val (some1.getD 14 .non)) told0) [.lst [.int 0]] := by kernel_rfl
theorem p1_15 (s : Sl) : exs Fq [sAt 9, sAt 10] (at1 s (.val (some1.getD 15 .non)) .emp) [.lst [.int 0]] = .next (at1 s (.val (some1.getD 15 .non)) told0) [.lst [.int 0]] := by kernel_rfl
theorem p2_0 (s : Sl) : exs Fq [sAt 12, sAt 13, sAt 14] (at1 s (.val (some2.getD 0 .non)) told0) [.lst [.int 0, .int 0]] = .next (at1 s (.val (some2.getD 0 .non)) told1) [.lst [.int 0, .int 0]] := by kernel_rfl
theorem p2_1 (s : Sl) : exs Fq [sAt 12, sAt 13, sAt 14] (at1 s (.val (some2.getD 1 .non)) told0) [.lst [.int 0, .int 0]] = .next (at1 s (.val (some2.getD 1 .non)) told1) [.lst [.int 0, .int 0]] := by kernel_rfl
theorem p2_2 (s : Sl) : exs Fq [sAt 12, sAt 13, sAt 14] (at1 s (.val (some2.getD 2 .non)) told0) [.lst [.int 0, .int 0]] = .next (at1 s (.val (some2.getD 2 .non)) told1) [.lst [.int 0, .int 0]] := by kernel_rfl
theorem p2_3 (s : Sl) : exs Fq [sAt 12, sAt 13, sAt 14] (at1 s (.val (some2.getD 3 .non)) told0) [.lst [.int 0, .int 0]] = .next (at1 s (.val (some2.getD 3 .non)) told1) [.lst [.int 0, .int 0]] := by kernel_rfl
theorem p2_4 (s : Sl) : exs Fq [sAt 12, sAt 13, sAt 14] (at1 s (.val (some2.getD 4 .non)) told0) [.lst [.int 0, .int 0]] = .next (at1 s (.val (some2.getD 4 .non)) told1) [.lst [.int 0, .int 0]] := by kernel_rfl
theorem p2_5 (s : Sl) : exs Fq [sAt 12, sAt 13, sAt 14] (at1 s (.val (some2.getD 5 .non)) told0) [.lst [.int 0, .int 0]] = .next (at1 s (.val (some2.getD 5 .non)) told1) [.lst [.int 0, .int 0]] := by kernel_rfl
theorem p2_6 (s : Sl) : exs Fq [sAt 12, sAt 13, sAt 14] (at1 s (.val (some2.getD 6 .non)) told0) [.lst [.int 0, .int 0]] = .next (at1 s (.val (some2.getD 6 .non)) told1) [.lst [.int 0, .int 0]] := by kernel_rfl
theorem p2_7 (s : Sl) : exs Fq [sAt 12, sAt 13, sAt 14] (at1 s (.val (some2.getD 7 .non)) told0) [.lst [.int 0, .int 0]] = .next (at1 s (.val (some2.getD 7 .non)) told1) [.lst [.int 0, .int 0]] := by kernel_rfl
theorem p2_8 (s : Sl) : exs Fq [sAt 12, sAt 13, sAt 14] (at1 s (.val (some2.getD 8 .non)) told0) [.lst [.int 0, .int 0]] = .next (at1 s (.val (some2.getD 8 .non)) told1) [.lst [.int 0, .int 0]] := by kernel_rfl
theorem p2_9 (s : Sl) : exs Fq [sAt 12, sAt 13, sAt 14] (at1 s (.val (some2.getD 9 .non)) told0) [.lst [.int 0, .int 0]] = .next (at1 s (.val (some2.getD 9 .non)) told1) [.lst [.int 0, .int 0]] := by kernel_rfl
theorem p2_10 (s : Sl) : exs Fq [sAt 12, sAt 13, sAt 14] (at1 s (.val (some2.getD 10 .non)) told0) [.lst [.int 0, .int 0]] = .next (at1 s (.val (some2.getD 10 .non)) told1) [.lst [.int 0, .int 0]] := by kernel_rfl
theorem p2_11 (s : Sl) : exs Fq [sAt 12, sAt 13, sAt 14] (at1 s (.val (some2.getD 11 .non)) told0) [.lst [.int 0, .int 0]] = .next (at1 s (.val (some2.getD 11 .non)) told1) [.lst [.int 0, .int 0]] := by kernel_rfl
theorem p2_12 (s : Sl) : exs Fq [sAt 12, sAt 13, sAt 14] (at1 s (.val (some2.getD 12 .non)) told0) [.lst [.int 0, .int 0]] = .next (at1 s (.val (some2.getD 12 .non)) told1) [.lst [.int 0, .int 0]] := by kernel_rfl
theorem p2_13 (s : Sl) : exs Fq [sAt 12, sAt 13, sAt 14] (at1 s (.val (some2.getD 13 .non)) told0) [.lst [.int 0, .int 0]] = .next (at1 s (.val (some2.getD 13 .non)) told1) [.lst [.int 0, .int 0]] := by kernel_rfl
theorem p2_14 (s : Sl) : exs Fq [sAt 12, sAt 13, sAt 14] (at1 s (.val (some2.getD 14 .non)) told0) [.lst [.int 0, .int 0]] = .next (at1 s (.val (some2.getD 14 .non)) told1) [.lst [.int 0, .int 0]] := by kernel_rfl
theorem p2_15 (s : Sl) : exs Fq [sAt 12, sAt 13, sAt 14] (at1 s (.val (some2.getD 15 .non)) told0) [.lst [.int 0, .int 0]] = .next (at1 s (.val (some2.getD 15 .non)) told1) [.lst [.int 0, .int 0]] := by kernel_rfl
theorem p2_16 (s : Sl) : exs Fq [sAt 12, sAt 13, sAt 14] (at1 s (.val (some2.getD 16 .non)) told0) [.lst [.int 0, .int 0]] = .next (at1 s (.val (some2.getD 16 .non)) told1) [.lst [.int 0, .int 0]] := by kernel_rfl
theorem p1 (s : Sl) : ∀ r, r < 16 → exs Fq [sAt 9, sAt 10] (at1 s (.val (some1.getD r .non)) .emp) [.lst [.int 0]] = .next (at1 s (.val (some1.getD r .non)) told0) [.lst [.int 0]] := by
  intro r hr
  match r, hr with
  | 0, _ => exact p1_0 s
  | 1, _ => exact p1_1 s
  | 2, _ => exact p1_2 s
  | 3, _ => exact p1_3 s
  | 4, _ => exact p1_4 s
  | 5, _ => exact p1_5 s
  | 6, _ => exact p1_6 s
  | 7, _ => exact p1_7 s
  | 8, _ => exact p1_8 s
  | 9, _ => exact p1_9 s
  | 10, _ => exact p1_10 s
  | 11, _ => exact p1_11 s
  | 12, _ => exact p1_12 s
  | 13, _ => exact p1_13 s
  | 14, _ => exact p1_14 s
  | 15, _ => exact p1_15 s
  | r + 16, h => exact absurd h (by omega)
theorem p2 (s : Sl) : ∀ r, r < 17 → exs Fq [sAt 12, sAt 13, sAt 14] (at1 s (.val (some2.getD r .non)) told0) [.lst [.int 0, .int 0]] = .next (at1 s (.val (some2.getD r .non)) told1) [.lst [.int 0, .int 0]] := by
  intro r hr
  match r, hr with
  | 0, _ => exact p2_0 s
  | 1, _ => exact p2_1 s
  | 2, _ => exact p2_2 s
  | 3, _ => exact p2_3 s
  | 4, _ => exact p2_4 s
  | 5, _ => exact p2_5 s
  | 6, _ => exact p2_6 s
  | 7, _ => exact p2_7 s
  | 8, _ => exact p2_8 s
  | 9, _ => exact p2_9 s
  | 10, _ => exact p2_10 s
  | 11, _ => exact p2_11 s
  | 12, _ => exact p2_12 s
  | 13, _ => exact p2_13 s
  | 14, _ => exact p2_14 s
  | 15, _ => exact p2_15 s
  | 16, _ => exact p2_16 s
  | r + 17, h => exact absurd h (by omega)
def prs : Sl := sl (exs Fq [sAt 16] (emps 14) []) 11
abbrev at2 (s d : Sl) : Env := [s, .val (.loc 0), gm, en, tw, pl, so, d, told1, .emp, .val (.bl true), .emp, .emp, .emp]
abbrev at3 (s d : Sl) : Env := [s, .val (.loc 0), gm, en, tw, pl, so, d, told1, .emp, .val (.bl true), prs, .emp, .emp]
abbrev st2 : Store := [.lst [.int 0, .int 0]]
theorem v1 (s d : Sl) : ex Fq (sAt 15) (at1 s d told1) st2 = .next (at2 s d) st2 := by kernel_rfl
theorem v2 (s d : Sl) : exs Fq [sAt 16, sAt 17] (at2 s d) st2 = .next (at3 s d) st2 := by kernel_rfl
theorem v3 : Fq.fn 21 [] st2 = .ok (.bl true) st2 := by kernel_rfl
theorem v4 : Fq.fn 35 [] st2 = .ok (.bl true) st2 := by kernel_rfl
theorem v5 (s d : Sl) : ex Fq (sAt 18) (at3 s d) st2 = .ret (.bl true) st2 := by
  show ex Fq (.ret (.and (.call 21 []) (.call 35 []))) (at3 s d) st2 = _
  refine ex_ret ?_
  rw [ev]
  rw [show ev Fq .read (.call 21 []) (at3 s d) st2 = .ok (.bl true) st2 from v3]
  exact v4
theorem exs_app {F : Fns} {b : List S} : ∀ (a : List S) {env env' : Env} {st st' : Store}, exs F a env st = .next env' st' → exs F (a ++ b) env st = exs F b env' st'
  | [], env, env', st, st', h => by rw [exs] at h; cases h; rfl
  | x :: a, env, env', st, st', h => by
    rw [List.cons_append]
    rw [exs] at h ⊢
    cases q : ex F x env st with
    | next e2 s2 => rw [q] at h; exact exs_app a h
    | ret _ _ => rw [q] at h; cases h
    | err _ _ => rw [q] at h; cases h
    | bad => rw [q] at h; cases h
theorem pick1 (xs : List Int) (hx : xs.length ≤ 63) (ds : List D) (n : Nat) (hn : ds.length = n) (h0 : 0 < n) (ys : List D) (hy : ys.length < 16777216) : ∃ r, r < n ∧ Fq.fn 25 [.scr (xs.map D.int), .loc 0, .lst ds] [.lst ys] = .ok (ds.getD r .non) [.lst (ys ++ [.int 0])] := by
  subst hn
  obtain ⟨r, hr, e⟩ := draw0 dr 35 xs hx ds.length h0 ys [] hy
  refine ⟨r, hr, ?_⟩
  show (Mi.run (prO dis) (38 + 1)).fn 25 _ _ = _
  rw [run_fn (d := Df.d__law_pick) (by rfl), call_ret (st' := [.lst (ys ++ [.int 0])]) (r := ds.getD r .non) rfl ?_]
  · show Mi.R.ok _ (trunc 1 _ _) = _
    rw [trunc_eq (by simp)]
  show exs _ _ [.val (.scr (xs.map D.int)), .val (.loc 0), .val (.lst ds)] _ = _
  refine exs_ret (ex_ret (ev_idx (x := .lst ds) (y := .int r) (st1 := [.lst ys]) rfl (ev_call (ds := [.scr (xs.map D.int), .loc 0, .int ds.length]) (st1 := [.lst ys]) rfl e) (idx_lst ?_)))
  rw [List.getD_eq_getElem?_getD, List.getElem?_eq_getElem hr]
  rfl
theorem k09_run (xs : List Int) (hx : xs.length ≤ 63) : ∃ st', (Mi.run (Mi.prO dis) 40).fn i_law.num [.scr (xs.map Mi.D.int)] [] = .ok (.bl true) st' := by
  let s : Sl := .val (.scr (xs.map D.int))
  obtain ⟨r1, h1, e1⟩ := pick1 xs hx some1 16 len1 (by decide) [] (by decide)
  obtain ⟨r2, h2, e2⟩ := pick1 xs hx some2 17 len2 (by decide) [.int 0] (by decide)
  refine ⟨trunc 0 (.bl true) st2, ?_⟩
  rw [run_fn (d := Df.d_law_k09) (by rfl), call_ret (r := .bl true) (st' := st2) rfl ?_]
  · rfl
  show exs Fq body ([s] ++ emps 13) [] = _
  have hb : body = [sAt 0, sAt 1, sAt 2, sAt 3, sAt 4, sAt 5, sAt 6, sAt 7] ++ ([sAt 8] ++ ([sAt 9, sAt 10] ++ ([sAt 11] ++ ([sAt 12, sAt 13, sAt 14] ++ ([sAt 15] ++ ([sAt 16, sAt 17] ++ [sAt 18])))))) := by kernel_rfl
  rw [hb, exs_app _ (u1 s)]
  have c1 : ex Fq (sAt 8) (at0 s) [.lst []] = .next (at1 s (.val (some1.getD r1 .non)) .emp) [.lst [.int 0]] := by
    show ex Fq (.asg (.name 7) (.call 25 [.var 0, .var 1, .var 6])) (at0 s) [.lst []] = _
    refine ex_asg (x := some1.getD r1 .non) (st1 := [.lst [.int 0]]) (ev_call (ds := [.scr (xs.map D.int), .loc 0, .lst some1]) (st1 := [.lst []]) (by kernel_rfl) e1) (show 7 < 14 by decide) (fun q z => by cases z)
  rw [exs_app _ (show exs Fq [sAt 8] (at0 s) [.lst []] = _ by rw [exs, c1]; rfl)]
  rw [exs_app _ (p1 s r1 h1)]
  have c2 : ex Fq (sAt 11) (at1 s (.val (some1.getD r1 .non)) told0) [.lst [.int 0]] = .next (at1 s (.val (some2.getD r2 .non)) told0) st2 := by
    show ex Fq (.asg (.name 7) (.call 25 [.var 0, .var 1, .call 19 [.var 3, .var 4]])) (at1 s (.val (some1.getD r1 .non)) told0) [.lst [.int 0]] = _
    refine ex_asg (x := some2.getD r2 .non) (st1 := st2) (ev_call (ds := [.scr (xs.map D.int), .loc 0, .lst some2]) (st1 := [.lst [.int 0]]) ?_ e2) (show 7 < 14 by decide) (fun q z => by cases z)
    rw [evs3 (x := .scr (xs.map D.int)) (y := .loc 0) (z := .lst some2) (st1 := [.lst [.int 0]]) (st2 := [.lst [.int 0]]) (st3 := [.lst [.int 0]]) rfl rfl (two s _ _)]
  rw [exs_app _ (show exs Fq [sAt 11] (at1 s (.val (some1.getD r1 .non)) told0) [.lst [.int 0]] = _ by rw [exs, c2]; rfl)]
  rw [exs_app _ (p2 s r2 h2)]
  rw [exs_app _ (show exs Fq [sAt 15] _ _ = _ by rw [exs, v1 s _]; rfl)]
  rw [exs_app _ (v2 s _)]
  rw [exs, v5]
end L09
open PySem PySem.W PyProof.Rows
theorem PySem.Challenge.cw_askahead_k09_refused_holds : PySem.Challenge.rw_askahead_k09_refused.Holds := by
  exact L09.ends fun ns hl => L09.k09_run ns hl
