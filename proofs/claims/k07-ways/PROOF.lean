import PyProof.Rows.All
import HandS.ForMost
import KE.SortData
import KE.DataMinMax
import HandS.Defaults
import HandS.HeadEnd
import HandS.HeadHook2
import HandS.HeadHook4
import HandS.TupMul
import HandS.WideBits
import HandS.TupAny
import HandS.Style
import HandS.Conv
import HandS.IsInst
import PyProof.ReprReads
import PyProof.ReprRoads
import KE.KTupSum
import HandS.RaiseMore
import HandS.TupLen
import HandS.More
import PyProof.WalksMore
import PyProof.SumWalk
import HandS.Star
import KE.DataFind
import HandS.Remove
import KE.GoesMore
import HandS.Zip
import HandS.Iter
import HandS.Comp
import HandS.NoneIn
import KE.GoesZip
import KE.GoesEnumKw
import HandS.DictComp
import HandS.SetBool
import HandS.Strs
import HandS.Small
import HandS.Keys
import PySem.Challenge.RW_linkslost_k07_ways_of_links
import Wide.All
import OpenK.AllK
import Wide.FinOn
import KE.KStateDown
import HandS.Head0
import HandS.Head1
import HandS.Head2
import HandS.HeadHook1
section
set_option Elab.async false
set_option linter.all false
set_option maxRecDepth 100000
/-! Ev1: data of the evaluator, how it lies in the abstract heap, what is kept. -/
namespace Ev
open PySem PySem.Spec PyProof.Rows L2

abbrev D := PyData

def keyD : Key → D
  | .inl i => .int i
  | .inr x => .str x

/-! ### frozen data: none of its objects may be written (W) -/
mutual
inductive R (W : Addr → Prop) (H : Hp) : V → D → Prop
  | non : R W H .non .none
  | bl (b : Bool) : R W H (.bl b) (.bool b)
  | int (i : Int) : R W H (.int i) (.int i)
  | str (x : Str) : R W H (.str x) (.str x)
  | lst {a : Addr} {xs : List V} {ds : List D} : ¬ W a → H a = some (.lst xs) → RA W H xs ds → R W H (.ref a) (.list ds)
  | tup {a : Addr} {xs : List V} {ds : List D} : ¬ W a → H a = some (.tup xs) → RA W H xs ds → R W H (.ref a) (.tuple ds)
  | dK {a : Addr} {kvs : List (Key × V)} {es : List (D × D)} : ¬ W a → H a = some (.dK kvs) → kvs.map (fun p => keyD p.1) = es.map (·.1) → RA W H (kvs.map (·.2)) (es.map (·.2)) → R W H (.ref a) (.dict es)
  | dT {a : Addr} {kvs : List (List Key × V)} {es : List (D × D)} : ¬ W a → H a = some (.dT kvs) → kvs.map (fun p => PyData.tuple (p.1.map keyD)) = es.map (·.1) → RA W H (kvs.map (·.2)) (es.map (·.2)) → R W H (.ref a) (.dict es)
inductive RA (W : Addr → Prop) (H : Hp) : List V → List D → Prop
  | nil : RA W H [] []
  | cons {v : V} {vs : List V} {d : D} {ds : List D} : R W H v d → RA W H vs ds → RA W H (v :: vs) (d :: ds)
end

/-- what is kept of all that is not written -/
def Pres (W : Addr → Prop) (H : Hp) (W' : Addr → Prop) (H' : Hp) : Prop := ∀ a o, ¬ W a → H a = some o → ¬ W' a ∧ H' a = some o

section
variable {W W' : Addr → Prop} {H H' : Hp}
mutual
theorem R.pres {v : V} {d : D} (h : R W H v d) (p : Pres W H W' H') : R W' H' v d := by
  match h with
  | .non => exact .non
  | .bl b => exact .bl b
  | .int i => exact .int i
  | .str x => exact .str x
  | .lst w e r => exact .lst (p _ _ w e).1 (p _ _ w e).2 (RA.pres r p)
  | .tup w e r => exact .tup (p _ _ w e).1 (p _ _ w e).2 (RA.pres r p)
  | .dK w e k r => exact .dK (p _ _ w e).1 (p _ _ w e).2 k (RA.pres r p)
  | .dT w e k r => exact .dT (p _ _ w e).1 (p _ _ w e).2 k (RA.pres r p)
theorem RA.pres {vs : List V} {ds : List D} (h : RA W H vs ds) (p : Pres W H W' H') : RA W' H' vs ds := by
  match h with
  | .nil => exact .nil
  | .cons a r => exact .cons (R.pres a p) (RA.pres r p)
end

theorem RA.length : ∀ {vs : List V} {ds : List D}, RA W H vs ds → vs.length = ds.length
  | _, _, .nil => rfl
  | _, _, .cons _ r => by simp [RA.length r]
theorem RA.app : ∀ {vs ws : List V} {ds es : List D}, RA W H vs ds → RA W H ws es → RA W H (vs ++ ws) (ds ++ es)
  | _, _, _, _, .nil, r => r
  | _, _, _, _, .cons a r, q => .cons a (r.app q)
theorem RA.get : ∀ {vs : List V} {ds : List D} {i : Nat} {d : D}, RA W H vs ds → ds[i]? = some d → ∃ v, vs[i]? = some v ∧ R W H v d
  | _, _, _, _, .nil, e => by simp at e
  | _, _, 0, _, .cons a _, e => by simp at e; subst e; exact ⟨_, rfl, a⟩
  | _, _, i + 1, _, .cons _ r, e => by
    obtain ⟨v, h, q⟩ := RA.get (i := i) r (by simpa using e)
    exact ⟨v, by simpa using h, q⟩
theorem RA.getV : ∀ {vs : List V} {ds : List D} {i : Nat} {v : V}, RA W H vs ds → vs[i]? = some v → ∃ d, ds[i]? = some d ∧ R W H v d
  | _, _, _, _, .nil, e => by simp at e
  | _, _, 0, _, .cons a _, e => by simp at e; subst e; exact ⟨_, rfl, a⟩
  | _, _, i + 1, _, .cons _ r, e => by
    obtain ⟨v, h, q⟩ := RA.getV (i := i) r (by simpa using e)
    exact ⟨v, by simpa using h, q⟩
theorem RA.take : ∀ {vs : List V} {ds : List D} (n : Nat), RA W H vs ds → RA W H (vs.take n) (ds.take n)
  | _, _, 0, _ => by simp; exact .nil
  | _, _, _ + 1, .nil => .nil
  | _, _, n + 1, .cons a r => .cons a (r.take n)
theorem RA.drop : ∀ {vs : List V} {ds : List D} (n : Nat), RA W H vs ds → RA W H (vs.drop n) (ds.drop n)
  | _, _, 0, r => r
  | _, _, _ + 1, .nil => .nil
  | _, _, n + 1, .cons _ r => r.drop n
theorem RA.rev {vs : List V} {ds : List D} (h : RA W H vs ds) : RA W H vs.reverse ds.reverse := by
  match h with
  | .nil => exact .nil
  | .cons a r => rw [List.reverse_cons, List.reverse_cons]; exact (RA.rev r).app (.cons a .nil)
theorem RA.set : ∀ {vs : List V} {ds : List D} {v : V} {d : D} (i : Nat), RA W H vs ds → R W H v d → RA W H (vs.set i v) (ds.set i d)
  | _, _, _, _, _, .nil, _ => .nil
  | _, _, _, _, 0, .cons _ r, q => .cons q r
  | _, _, _, _, i + 1, .cons a r, q => .cons a (RA.set i r q)
theorem RA.erase : ∀ {vs : List V} {ds : List D} (i : Nat), RA W H vs ds → RA W H (vs.eraseIdx i) (ds.eraseIdx i)
  | _, _, _, .nil => .nil
  | _, _, 0, .cons _ r => r
  | _, _, i + 1, .cons a r => .cons a (RA.erase i r)
theorem RA.rep {vs : List V} {ds : List D} (h : RA W H vs ds) : ∀ n : Nat, RA W H (List.replicate n vs).flatten (List.replicate n ds).flatten
  | 0 => .nil
  | n + 1 => by simp only [List.replicate_succ, List.flatten_cons]; exact h.app (h.rep n)
/-- lists of ints, of bools, of texts -/
theorem RA.ints : ∀ (ns : List Int), RA W H (ns.map V.int) (ns.map PyData.int)
  | [] => .nil
  | n :: ns => .cons (.int n) (RA.ints ns)
theorem RA.ints_of : ∀ {vs : List V} {ns : List Int}, RA W H vs (ns.map PyData.int) → vs = ns.map V.int
  | _, [], .nil => rfl
  | _, n :: ns, .cons a r => by cases a; rw [RA.ints_of r]; rfl
theorem RA.bls_of : ∀ {vs : List V} {ns : List Bool}, RA W H vs (ns.map PyData.bool) → vs = ns.map V.bl
  | _, [], .nil => rfl
  | _, n :: ns, .cons a r => by cases a; rw [RA.bls_of r]; rfl
theorem RA.strs_of : ∀ {vs : List V} {ns : List Str}, RA W H vs (ns.map PyData.str) → vs = ns.map V.str
  | _, [], .nil => rfl
  | _, n :: ns, .cons a r => by cases a; rw [RA.strs_of r]; rfl
end

/-! ### what is read: an object at the top may be written, what it holds may not -/
def RR (W : Addr → Prop) (H : Hp) (x : V) : D → Prop
  | .list ds => ∃ a xs, x = .ref a ∧ H a = some (.lst xs) ∧ RA W H xs ds
  | .dict es => ∃ a, x = .ref a ∧ ((∃ kvs : List (Key × V), H a = some (.dK kvs) ∧ kvs.map (fun p => keyD p.1) = es.map (·.1) ∧ RA W H (kvs.map (·.2)) (es.map (·.2))) ∨
      ∃ kvs : List (List Key × V), H a = some (.dT kvs) ∧ kvs.map (fun p => PyData.tuple (p.1.map keyD)) = es.map (·.1) ∧ RA W H (kvs.map (·.2)) (es.map (·.2)))
  | d => R W H x d
theorem R.rr {W : Addr → Prop} {H : Hp} {x : V} {d : D} (h : R W H x d) : RR W H x d := by
  cases h with
  | lst w e r => exact ⟨_, _, rfl, e, r⟩
  | dK w e k r => exact ⟨_, rfl, .inl ⟨_, e, k, r⟩⟩
  | dT w e k r => exact ⟨_, rfl, .inr ⟨_, e, k, r⟩⟩
  | tup w e r => exact .tup w e r
  | non => exact .non
  | bl b => exact .bl b
  | int i => exact .int i
  | str x => exact .str x
/-- an object of one's own at a, that may be written -/
def RO (W : Addr → Prop) (H : Hp) (a : Addr) : D → Prop
  | .list ds => ∃ xs, H a = some (.lst xs) ∧ RA W H xs ds
  | .dict es => (∃ kvs : List (Key × V), H a = some (.dK kvs) ∧ kvs.map (fun p => keyD p.1) = es.map (·.1) ∧ RA W H (kvs.map (·.2)) (es.map (·.2))) ∨
      ∃ kvs : List (List Key × V), H a = some (.dT kvs) ∧ kvs.map (fun p => PyData.tuple (p.1.map keyD)) = es.map (·.1) ∧ RA W H (kvs.map (·.2)) (es.map (·.2))
  | _ => False
theorem RO.rr {W : Addr → Prop} {H : Hp} {a : Addr} {d : D} (h : RO W H a d) : RR W H (.ref a) d := by
  cases d with
  | list ds => obtain ⟨xs, e, r⟩ := h; exact ⟨a, xs, rfl, e, r⟩
  | dict es => exact ⟨a, rfl, h⟩
  | _ => exact h.elim
theorem RO.there {W : Addr → Prop} {H : Hp} {a : Addr} {d : D} (h : RO W H a d) : H a ≠ none := by
  cases d with
  | list ds => obtain ⟨xs, e, r⟩ := h; rw [e]; simp
  | dict es => rcases h with ⟨k, e, _⟩ | ⟨k, e, _⟩ <;> (rw [e]; simp)
  | _ => exact h.elim
theorem RO.pres {W W' : Addr → Prop} {H H' : Hp} {a : Addr} {d : D} (h : RO W H a d) (p : Pres W H W' H') (e : H' a = H a) : RO W' H' a d := by
  cases d with
  | list ds => obtain ⟨xs, q, r⟩ := h; exact ⟨xs, e.trans q, r.pres p⟩
  | dict es =>
    rcases h with ⟨k, q, z, r⟩ | ⟨k, q, z, r⟩
    · exact .inl ⟨k, e.trans q, z, r.pres p⟩
    · exact .inr ⟨k, e.trans q, z, r.pres p⟩
  | _ => exact h.elim
/-- no more may be written: it is frozen -/
theorem RO.freeze {W W' : Addr → Prop} {H : Hp} {a : Addr} {d : D} (h : RO W H a d) (hW : ∀ b, ¬ W b → ¬ W' b) (ha : ¬ W' a) : R W' H (.ref a) d := by
  have p : Pres W H W' H := fun b o w e => ⟨hW b w, e⟩
  cases d with
  | list ds => obtain ⟨xs, q, r⟩ := h; exact .lst ha q (r.pres p)
  | dict es =>
    rcases h with ⟨k, q, z, r⟩ | ⟨k, q, z, r⟩
    · exact .dK ha q z (r.pres p)
    · exact .dT ha q z (r.pres p)
  | _ => exact h.elim

/-! ### values, the store, the state -/
inductive SV where
  | int (i : Int) | ref (j : Nat)
inductive SObj where
  | rcd (fs : List (Str × SV)) | lst (ns : List Int)
inductive Val where
  | dat (d : D) | ref (j : Nat) | scr (ns : List Int)
structure EV where
  own : Bool
  val : Val
inductive Tag where
  | frz | fre | slot (i : Nat)
structure Out where
  tag : Tag
  val : Val
structure Stt where
  env : List (Option EV)
  sto : List SObj

def RSV (ρ : List Addr) : SV → V → Prop
  | .int i, v => v = .int i
  | .ref j, v => ∃ a, ρ[j]? = some a ∧ v = .ref a
def RS (ρ : List Addr) (H : Hp) (a : Addr) : SObj → Prop
  | .rcd fs => ∃ kvs : List (Key × V), H a = some (.dK kvs) ∧ Paired (fun (p : Key × V) (q : Str × SV) => p.1 = Sum.inr q.1 ∧ RSV ρ q.2 p.2) kvs fs
  | .lst ns => H a = some (.lst (ns.map V.int))
def RVal (K : PySem.W.Frag) (ρ : List Addr) (W : Addr → Prop) (H : Hp) : Val → V → Prop
  | .dat d, v => R W H v d
  | .ref j, v => ∃ a, ρ[j]? = some a ∧ v = .ref a
  | .scr ns, v => ∃ a, v = .ref a ∧ ((∃ o, ¬ W a ∧ H a = some (.frz o (.lst (ns.map V.int)))) ∨ SqL K (fun _ => none) a (ns.map V.int))

structure SRel (ρ : List Addr) (sto : List SObj) (W : Addr → Prop) (H : Hp) : Prop where
  len : sto.length = ρ.length
  nd : ρ.Nodup
  at_ : ∀ (j : Nat) (o : SObj) (a : Addr), sto[j]? = some o → ρ[j]? = some a → W a ∧ RS ρ H a o
  wn : ∀ a, W a → H a ≠ none

structure Rel (K : PySem.W.Frag) (ρ : List Addr) (st : Stt) (W : Addr → Prop) (σ : L2.St) (H : Hp) : Prop where
  s : SRel ρ st.sto W H
  len : st.env.length = σ.length
  fz : ∀ (i : Nat) (val : Val), st.env[i]? = some (some ⟨false, val⟩) → ∃ v, σ[i]? = some (some v) ∧ RVal K ρ W H val v
  ow : ∀ (i : Nat) (val : Val), st.env[i]? = some (some ⟨true, val⟩) → ∃ (a : Addr) (d : D), val = .dat d ∧ σ[i]? = some (some (.ref a)) ∧ W a ∧ RO W H a d ∧ a ∉ ρ
  ap : ∀ (i j : Nat) (vi vj : Val) (a : Addr), st.env[i]? = some (some ⟨true, vi⟩) → st.env[j]? = some (some ⟨true, vj⟩) → σ[i]? = some (some (.ref a)) → σ[j]? = some (some (.ref a)) → i = j

/-- what this frame may write -/
def Lc (ρ : List Addr) (env : List (Option EV)) (σ : L2.St) (a : Addr) : Prop := a ∈ ρ ∨ ∃ (i : Nat) (val : Val), env[i]? = some (some ⟨true, val⟩) ∧ σ[i]? = some (some (.ref a))

structure Fr' (L : Addr → Prop) (W : Addr → Prop) (H : Hp) (W' : Addr → Prop) (H' : Hp) : Prop where
  keep : Pres W H W' H'
  hold : ∀ a, W a → ¬ L a → W' a ∧ H' a = H a
  there : ∀ a, H a ≠ none → H' a ≠ none

structure Step (K : PySem.W.Frag) (ρ : List Addr) (st : Stt) (W : Addr → Prop) (σ : L2.St) (H : Hp) (ρ' : List Addr) (st' : Stt) (W' : Addr → Prop) (σ' : L2.St) (H' : Hp) : Prop where
  rel : Rel K ρ' st' W' σ' H'
  fr : Fr' (Lc ρ st.env σ) W H W' H'
  pre : ρ <+: ρ'
  sub : ∀ a, Lc ρ' st'.env σ' a → Lc ρ st.env σ a ∨ H a = none

section
variable {K : PySem.W.Frag} {ρ ρ' ρ1 ρ2 : List Addr} {st st' st1 st2 : Stt} {W W' W1 W2 : Addr → Prop} {σ σ' σ1 σ2 : L2.St} {H H' H1 H2 : Hp}

theorem Pres.refl : Pres W H W H := fun _ _ w e => ⟨w, e⟩
theorem Pres.trans (p : Pres W H W1 H1) (q : Pres W1 H1 W2 H2) : Pres W H W2 H2 := fun a o w e => q a o (p a o w e).1 (p a o w e).2
theorem RVal.pres {val : Val} {v : V} (h : RVal K ρ W H val v) (p : Pres W H W' H') (e : ρ <+: ρ') : RVal K ρ' W' H' val v := by
  cases val with
  | dat d => exact R.pres (v := v) (d := d) h p
  | ref j =>
    obtain ⟨a, h1, h2⟩ := h
    obtain ⟨t, rfl⟩ := e
    refine ⟨a, ?_, h2⟩
    rw [List.getElem?_append_left (List.getElem?_eq_some_iff.mp h1).1]
    exact h1
  | scr ns =>
    obtain ⟨a, h1, h2⟩ := h
    refine ⟨a, h1, ?_⟩
    rcases h2 with ⟨o, w, q⟩ | h2
    · exact .inl ⟨o, (p a _ w q).1, (p a _ w q).2⟩
    · exact .inr h2
theorem Rel.refl (r : Rel K ρ st W σ H) : Step K ρ st W σ H ρ st W σ H := ⟨r, ⟨Pres.refl, fun a w _ => ⟨w, rfl⟩, fun _ h => h⟩, List.prefix_refl _, fun a h => .inl h⟩
theorem Step.trans (r : Rel K ρ st W σ H) (a : Step K ρ st W σ H ρ1 st1 W1 σ1 H1) (b : Step K ρ1 st1 W1 σ1 H1 ρ2 st2 W2 σ2 H2) : Step K ρ st W σ H ρ2 st2 W2 σ2 H2 where
  rel := b.rel
  pre := a.pre.trans b.pre
  fr := by
    refine ⟨a.fr.keep.trans b.fr.keep, fun x w l => ?_, fun x h => b.fr.there x (a.fr.there x h)⟩
    obtain ⟨w1, e1⟩ := a.fr.hold x w l
    have l1 : ¬ Lc ρ1 st1.env σ1 x := fun z => by
      rcases a.sub x z with q | q
      · exact l q
      · exact r.s.wn x w q
    obtain ⟨w2, e2⟩ := b.fr.hold x w1 l1
    exact ⟨w2, e2.trans e1⟩
  sub := fun x l => by
    rcases b.sub x l with q | q
    · exact a.sub x q
    · right
      cases e : H x with
      | none => rfl
      | some o => exact absurd q (a.fr.there x (by rw [e]; simp))

/-! ### outs: what an expression has given -/
def okO (o : Out) (st : Stt) : Prop := match o.tag with
  | .slot i => st.env[i]? = some (some ⟨true, o.val⟩)
  | _ => True
/-- how an out lies: H0 is the heap ahead of the expression -/
def RT (K : PySem.W.Frag) (ρ : List Addr) (env : List (Option EV)) (W : Addr → Prop) (σ : L2.St) (H H0 : Hp) (o : Out) (x : V) : Prop := match o.tag with
  | .frz => RVal K ρ W H o.val x
  | .fre => ∃ (a : Addr) (d : D), o.val = .dat d ∧ x = .ref a ∧ W a ∧ RO W H a d ∧ ¬ Lc ρ env σ a ∧ H0 a = none
  | .slot i => env[i]? = some (some ⟨true, o.val⟩) ∧ σ[i]? = some (some x)
/-- an out that came earlier, after more has been done (σ stands) -/
theorem RT.later {H0 : Hp} {o : Out} {x : V} (s : Step K ρ st W σ H ρ' st' W' σ H') (r : Rel K ρ st W σ H) (h : RT K ρ st.env W σ H H0 o x) (ok : okO o st') : RT K ρ' st'.env W' σ H' H0 o x := by
  obtain ⟨tag, val⟩ := o
  cases tag with
  | frz => exact RVal.pres (K := K) (ρ := ρ) (W := W) (H := H) h s.fr.keep s.pre
  | fre =>
    obtain ⟨a, d, e, ex, w, ro, nl, h0⟩ := h
    obtain ⟨w', e'⟩ := s.fr.hold a w nl
    refine ⟨a, d, e, ex, w', ro.pres s.fr.keep e', fun z => ?_, h0⟩
    rcases s.sub a z with q | q
    · exact nl q
    · exact ro.there q
  | slot i => exact ⟨ok, h.2⟩
theorem RT.start {H0 H00 : Hp} {o : Out} {x : V} (h : RT K ρ st.env W σ H H0 o x) (hh : ∀ a, H0 a = none → H00 a = none) : RT K ρ st.env W σ H H00 o x := by
  obtain ⟨tag, val⟩ := o
  cases tag with
  | frz => exact h
  | fre => obtain ⟨a, d, e, ex, w, ro, nl, h0⟩ := h; exact ⟨a, d, e, ex, w, ro, nl, hh a h0⟩
  | slot i => exact h

/-- the data that a value shows -/
def view (sto : List SObj) : Val → Option D
  | .dat d => some d
  | .ref j => match sto[j]? with
    | some (.lst ns) => some (.list (ns.map PyData.int))
    | _ => none
  | .scr _ => none
theorem RT.read {H0 : Hp} {o : Out} {x : V} {d : D} (r : Rel K ρ st W σ H) (h : RT K ρ st.env W σ H H0 o x) (e : view st.sto o.val = some d) : RR W H x d := by
  obtain ⟨tag, val⟩ := o
  cases tag with
  | frz =>
    cases val with
    | dat d' => cases e; exact R.rr h
    | scr ns => cases e
    | ref j =>
      obtain ⟨a, h1, rfl⟩ := h
      simp only [view] at e
      cases q : st.sto[j]? with
      | none => rw [q] at e; cases e
      | some ob =>
        rw [q] at e
        cases ob with
        | rcd fs => cases e
        | lst ns =>
          cases e
          exact ⟨a, _, rfl, (r.s.at_ j _ a q h1).2, RA.ints ns⟩
  | fre =>
    obtain ⟨a, d', e', rfl, w, ro, _⟩ := h
    cases e'
    cases e
    exact ro.rr
  | slot i =>
    obtain ⟨a, d', e', h1, w, ro, _⟩ := r.ow i val h.1
    cases e'
    cases e
    rw [h.2] at h1
    cases h1
    exact ro.rr
end
end Ev
end

section
set_option Elab.async false
set_option linter.all false
set_option maxRecDepth 100000
/-! Ev2: the small language, what an operation gives of data, weakest preconditions. -/
namespace Ev
open PySem PySem.Spec PyProof.Rows L2

def SL : Nat := 16777216

/-! ### syntax -/
/-- built-ins, methods that are called -/
inductive BF where
  | len | abs | int | max | min | sum | any | all | tuple | list | repr | sorted | dict
inductive MF where
  | index
/-- types that are asked for -/
inductive TF where
  | int | bool | str | tuple | list | dict
def TF.name : TF → String
  | .int => "int"
  | .bool => "bool"
  | .str => "str"
  | .tuple => "tuple"
  | .list => "list"
  | .dict => "dict"
inductive Tg where
  | nm (i : Nat) | tup (ts : List Tg)

mutual
inductive IE where
  | var (i : Nat) | non | bl (b : Bool) | int (i : Int) | str (x : Str)
  | bin (op : Operator) (a b : IE) | neg (a : IE) | nt (a : IE)
  | bop (isAnd : Bool) (es : IEs)
  | ife (c a b : IE)
  | tup (es : IEs) | lst (es : IEs)
  | cmp (op : CmpOp) (a b : IE) | chain (op op' : CmpOp) (a b c : IE)
  | call (f : String) (es : IEs) | callK (f : String) (es : IEs) | bcl (f : BF) (es : IEs) | mth (m : MF) (o : IE) (es : IEs)
  | app (o e : IE) | upd (o e : IE) | ext (o e : IE) | rmd (o e : IE) | fnd (o e : IE) | ctd (o e : IE) | pop (o : IE) (es : IEs) | rmv (o e : IE)
  | idx (o i : IE) | slc (o : IE) (lo hi : IO) | rev (o : IE)
  | comp (elt : IE) (tg : Tg) (it : II) (cond : IO) (own : List Nat)
  | comp2 (elt : IE) (tg : Tg) (it : II) (cond : IO) (tg1 : Tg) (it1 : II) (cond1 : IO) (own own1 : List Nat)
  | dnew (t : Bool)
  | dct1 (k v : IE)
  | lset (e : IE)
  | sco (b : Bool) (elt : IE) (tg : Tg) (it : II) (cond : IO) (own : List Nat)
  | dcp (kx vx : IE) (tg : Tg) (it : II) (cond : IO) (own : List Nat)
  | rcd (fs : IR)
  | isi (e : IE) (t : TF)
  | isN (neg : Bool) (e : IE)
  | lrg (tup : Bool) (it : II)
inductive IEs where
  | nil | cons (e : IE) (es : IEs) | star (e : IE) (es : IEs)
inductive IO where
  | no | so (e : IE)
inductive IR where
  | nil | cons (x : Str) (e : IE) (fs : IR)
inductive II where
  | ex (e : IE) | rg1 (a : IE) | rg2 (a b : IE) | rg3 (a b c : IE) | enm (e : IE) | zip (a b : IE) | zps (a b : IE)
end

def namesR : IR → List Str
  | .nil => []
  | .cons x _ fs => x :: namesR fs
mutual
inductive IS where
  | asg (i : Nat) (e : IE)
  | aug (i : Nat) (e : IE)
  | par (is : List Nat) (es : IEs)
  | unp (tg : Tg) (e : IE)
  | put (o k e : IE)
  | del (o k : IE)
  | exp (e : IE) | ret (e : IE) | retN
  | ife (c : IE) (t e : ISs)
  | whl (c : IE) (b : ISs)
  | for_ (tg : Tg) (it : II) (b : ISs)
  | brk | cnt | pas | rais
inductive ISs where
  | nil | cons (s : IS) (ss : ISs)
end

/-! ### operations on data -/
def binD : Operator → D → D → Option D
  | .Add, .int a, .int b => some (.int (a + b))
  | .Add, .list a, .list b => if a.length + b.length ≤ SL then some (.list (a ++ b)) else none
  | .Add, .tuple a, .tuple b => if a.length + b.length ≤ SL then some (.tuple (a ++ b)) else none
  | .Sub, .int a, .int b => some (.int (a - b))
  | .Mult, .int a, .int b => if (-(2 ^ 64) < a ∧ a < 2 ^ 64) ∨ (-(2 ^ 64) < b ∧ b < 2 ^ 64) then some (.int (a * b)) else none
  | .Mult, .list a, .int k => if -(2 ^ 63) ≤ k ∧ k < 2 ^ 63 ∧ a.length * k.toNat ≤ SL then some (.list (List.replicate k.toNat a).flatten) else none
  | .Mult, .tuple a, .int k => if a ≠ [] ∧ 0 ≤ k ∧ k ≤ 1000 ∧ a.length ≤ 1000 then some (.tuple (List.replicate k.toNat a).flatten) else none
  | .Pow, .int a, .int b => if 0 ≤ b ∧ b ≤ 1000000 ∧ a.natAbs < 2 ^ 64 then some (.int (a ^ b.toNat)) else none
  | .FloorDiv, .int a, .int b => if 0 < b ∧ b < 1073741824 then some (.int (a / b)) else none
  | .Mod, .int a, .int b => if 0 < b then some (.int (a % b)) else none
  | .LShift, .int a, .int b => if a = 1 ∧ 0 ≤ b ∧ b ≤ 1000 then some (.int (2 ^ b.toNat)) else none
  | .BitXor, .int a, .int b => some (.int (Builtin.bitXor a b))
  | _, _, _ => none
def eqD : D → D → Option Bool
  | .str a, .str b => some (decide (a = b))
  | a, b => if SeqAt.shaped a = true ∧ SeqAt.shaped b = true then some (PyData.eqv a b) else match a, b with
    | .list (_ :: _), .list [] => some false
    | _, _ => none
def cmpD : CmpOp → D → D → Option Bool
  | .Lt, .int a, .int b => some (decide (a < b))
  | .LtE, .int a, .int b => some (decide (a ≤ b))
  | .Gt, .int a, .int b => some (decide (b < a))
  | .GtE, .int a, .int b => some (decide (b ≤ a))
  | .Eq, a, b => eqD a b
  | .NotEq, a, b => (eqD a b).map not
  | .Is, .bool a, .bool b => some (a == b)
  | .IsNot, .bool a, .bool b => some (a != b)
  | _, _, _ => none

/-! ### weakest preconditions -/
/-- what the defs promise: depth, name, arguments, store, what is handed back (one's own or frozen), store -/
abbrev Spec := Nat → String → List Val → List SObj → (EV → List SObj → Prop) → Prop
abbrev PreE := (Out → Stt → Prop) → Stt → Prop
abbrev PreT := (Bool → Stt → Prop) → Stt → Prop
abbrev PreA := (List Out → Stt → Prop) → Stt → Prop

def frz (o : Out) (st : Stt) : Stt := match o.tag with
  | .slot i => { st with env := st.env.set i (some ⟨false, o.val⟩) }
  | _ => st
def frzA : List Out → Stt → Stt
  | [], st => st
  | o :: os, st => frzA os (frz o st)
def datsV : List Val → Option (List D)
  | [] => some []
  | .dat d :: vs => (datsV vs).map (d :: ·)
  | _ :: _ => none
def dats (os : List Out) : Option (List D) := datsV (os.map (·.val))
def views (sto : List SObj) : List Out → Option (List D)
  | [] => some []
  | o :: os => match view sto o.val, views sto os with
    | some d, some ds => some (d :: ds)
    | _, _ => none
def isFresh : D → Bool
  | .list _ => true
  | .dict _ => true
  | _ => false
/-- the out of a new datum -/
def outD (d : D) : Out := ⟨if isFresh d then .fre else .frz, .dat d⟩
def scalarV : Val → Bool
  | .dat .none => true
  | .dat (.bool _) => true
  | .dat (.int _) => true
  | .dat (.str _) => true
  | _ => false

/-! ### items, slices, methods, built-ins -/
def atomK : D → Bool
  | .int _ => true
  | .str _ => true
  | _ => false
def keyOk : D → Bool
  | .int _ => true
  | .str _ => true
  | .tuple ds => ds.all atomK
  | _ => false
def keyEq : D → D → Bool
  | .int a, .int b => decide (a = b)
  | .str a, .str b => decide (a = b)
  | .tuple as, .tuple bs => PyData.eqvAll as bs
  | _, _ => false
def lookD (k : D) : List (D × D) → Option D
  | [] => none
  | (k', v) :: r => if keyEq k' k then some v else lookD k r
def isTup : D → Bool
  | .tuple _ => true
  | _ => false
/-- all keys are of k's kind (tuples, or ints and texts) -/
def kinds (k : D) (es : List (D × D)) : Bool := es.all fun p => isTup p.1 == isTup k
def putD (k v : D) (es : List (D × D)) : List (D × D) :=
  if (lookD k es).isSome then es.map fun p => if keyEq p.1 k then (p.1, v) else p else es ++ [(k, v)]
def idxD : D → D → Option D
  | .list ds, .int i => atI ds i
  | .tuple ds, .int i => atI ds i
  | .dict es, k => if keyOk k = true ∧ kinds k es = true then lookD k es else none
  | _, _ => none
def cutD (ds : List D) (lo hi : Option Int) : List D := (ds.drop (HT.sIx ds.length 0 lo)).take (HT.sIx ds.length ds.length hi - HT.sIx ds.length 0 lo)
def slcD : D → Option Int → Option Int → Option D
  | .list ds, lo, hi => some (.list (cutD ds lo hi))
  | .tuple ds, lo, hi => some (.tuple (cutD ds lo hi))
  | _, _, _ => none
def revD : D → Option D
  | .list ds => some (.list ds.reverse)
  | .tuple ds => some (.tuple ds.reverse)
  | _ => none
def intsOf : List D → Option (List Int)
  | [] => some []
  | .int i :: r => (intsOf r).map (i :: ·)
  | _ :: _ => none
def boolsOf : List D → Option (List Bool)
  | [] => some []
  | .bool i :: r => (boolsOf r).map (i :: ·)
  | _ :: _ => none
def truD : D → Option Bool
  | .bool b => some b
  | _ => none

/-- a list that may be changed -/
def lstOf (o : Out) (st : Stt) : Option (List D) := match o.tag, o.val with
  | .slot i, .dat (.list _) => match st.env[i]? with
    | some (some ⟨true, .dat (.list ds)⟩) => some ds
    | _ => none
  | .frz, .ref j => match st.sto[j]? with
    | some (.lst ns) => some (ns.map PyData.int)
    | _ => none
  | _, _ => none
def setLst (o : Out) (ds : List D) (st : Stt) : Option Stt := match o.tag, o.val with
  | .slot i, .dat (.list _) => some { st with env := st.env.set i (some ⟨true, .dat (.list ds)⟩) }
  | .frz, .ref j => (intsOf ds).map fun ns => { st with sto := st.sto.set j (.lst ns) }
  | _, _ => none
/-- v is put behind the list that o is -/
def appS (o v : Out) (st : Stt) : Option Stt := match lstOf o (frz v st), v.val with
  | some ds, .dat d => if ds.length < SL then setLst o (ds ++ [d]) (frz v st) else none
  | _, _ => none
/-- the first place of an equal one -/
def findD (x : D) : List D → Nat → Option Nat
  | [], _ => none
  | z :: r, i => if PyData.eqv z x = true then some i else findD x r (i + 1)
/-- how many equal ones -/
def countD (x : D) (ds : List D) : Nat := ds.countP fun z => PyData.eqv z x
/-- every second number -/
def rngS (lo : Int) (n : Nat) : List D := (List.range n).map fun m : Nat => .int (lo + (m : Int) * 2)
/-- the first equal one is taken out -/
def rmdS (o v : Out) (st : Stt) : Option Stt := match lstOf o (frz v st), v.val with
  | some ds, .dat d => if SeqAt.shaped (.list ds) = true ∧ SeqAt.shaped d = true then match findD d ds 0 with
    | some j => setLst o (ds.eraseIdx j) (frz v st)
    | none => none else none
  | _, _ => none
/-- the items of the tuple v are put behind the list that o is -/
def extS (o v : Out) (st : Stt) : Option Stt := match lstOf o (frz v st), v.val with
  | some ds, .dat (.tuple es) => if ds.length + es.length ≤ SL then setLst o (ds ++ es) (frz v st) else none
  | some ds, .dat (.list es) => if ds.length + es.length ≤ SL then setLst o (ds ++ es) (frz v st) else none
  | _, _ => none
def popS (o : Out) (vs : List Val) (st : Stt) : Option (D × Stt) := match lstOf o st, vs with
  | some ds, [] => match ds[ds.length - 1]? with
    | some d => (setLst o ds.dropLast st).map fun st' => (d, st')
    | none => none
  | some ds, [.dat (.int i)] => if ds.length ≤ SL then match ixN ds.length i with
    | some k => match ds[k]? with
      | some d => (setLst o (ds.eraseIdx k) st).map fun st' => (d, st')
      | none => none
    | none => none else none
  | _, _ => none
def rmvS (o : Out) (n : Int) (st : Stt) : Option Stt := match lstOf o st with
  | some ds => match intsOf ds with
    | some ns => if n ∈ ns then setLst o ((ns.erase n).map PyData.int) st else none
    | none => none
  | none => none
def dctOf (o : Out) (st : Stt) : Option (List (D × D)) := match o.tag with
  | .slot i => match st.env[i]? with
    | some (some ⟨true, .dat (.dict es)⟩) => some es
    | _ => none
  | _ => none
def putF (x : Str) (v : SV) : List (Str × SV) → List (Str × SV)
  | [] => []
  | p :: r => (if p.1 = x then (x, v) else p) :: putF x v r
/-- o[k] = v -/
def putS (o k v : Out) (st : Stt) : Option Stt := match o.tag, o.val, k.val with
  | .slot i, _, .dat kd => match (frz v st).env[i]?, v.val with
    | some (some ⟨true, .dat (.dict es)⟩), .dat d => if keyOk kd = true ∧ kinds kd es = true ∧ es.length < SL then some { frz v st with env := (frz v st).env.set i (some ⟨true, .dat (.dict (putD kd d es))⟩) } else none
    | some (some ⟨true, .dat (.list ds)⟩), .dat d => match kd with
      | .int n => match ixN ds.length n with
        | some m => some { frz v st with env := (frz v st).env.set i (some ⟨true, .dat (.list (ds.set m d))⟩) }
        | none => none
      | _ => none
    | _, _ => none
  | .frz, .ref j, .dat (.str x) => match st.sto[j]?, v.val with
    | some (.rcd fs), .dat (.int n) => if (fs.lookup x).isSome = true ∧ fs.length < SL then some { frz v st with sto := st.sto.set j (.rcd (putF x (.int n) fs)) } else none
    | _, _ => none
  | _, _, _ => none
/-- a dict put to a dict -/
def mrgD : List (D × D) → List (D × D) → List (D × D)
  | es, [] => es
  | es, p :: r => mrgD (putD p.1 p.2 es) r
def intKeys : List (D × D) → Bool
  | [] => true
  | (.int _, _) :: r => intKeys r
  | _ :: _ => false
def ownDct (o : Out) (st : Stt) : Bool := match o.tag with
  | .slot i => match st.env[i]? with
    | some (some ⟨true, .dat (.dict _)⟩) => true
    | _ => false
  | _ => false
/-- o.update(v) -/
def updS (o v : Out) (st : Stt) : Option Stt := match o.tag with
  | .slot i => match (frz v st).env[i]?, v.val with
    | some (some ⟨true, .dat (.dict es)⟩), .dat (.dict fs) => if intKeys es = true ∧ intKeys fs = true ∧ fs.isEmpty = false ∧ es.length + fs.length ≤ SL then some { frz v st with env := (frz v st).env.set i (some ⟨true, .dat (.dict (mrgD es fs))⟩) } else none
    | _, _ => none
  | _ => none
/-- without a key -/
def dropD (n : Int) (es : List (D × D)) : List (D × D) := es.filter fun p => !keyEq p.1 (.int n)
/-- del o[n] -/
def delS (o : Out) (n : Int) (st : Stt) : Option Stt := match o.tag with
  | .slot i => match st.env[i]? with
    | some (some ⟨true, .dat (.dict es)⟩) => if kinds (.int n) es = true ∧ (lookD (.int n) es).isSome = true then some { st with env := st.env.set i (some ⟨true, .dat (.dict (dropD n es))⟩) } else none
    | _ => none
  | _ => none
/-- o[k] -/
def getS (sto : List SObj) (o k : Val) : Option Out := match o, k with
  | .dat d, .dat kd => (idxD d kd).map fun r => ⟨.frz, .dat r⟩
  | .ref j, .dat (.str x) => match sto[j]? with
    | some (.rcd fs) => match fs.lookup x with
      | some (.int n) => some ⟨.frz, .dat (.int n)⟩
      | some (.ref m) => some ⟨.frz, .ref m⟩
      | none => none
    | _ => none
  | _, _ => none

def wipeE (own : List Nat) (env : List (Option EV)) : List (Option EV) := match own with
  | [] => env
  | v :: vs => (wipeE vs env).set v none
def backE (own : List Nat) (old env : List (Option EV)) : List (Option EV) := match own with
  | [] => env
  | v :: vs => (backE vs old env).set v (old[v]?.getD none)
mutual
def bindT : Tg → D → List (Option EV) → Option (List (Option EV))
  | .nm i, d, env => if i < env.length then some (env.set i (some ⟨false, .dat d⟩)) else none
  | .tup ts, .tuple ds, env => bindTs ts ds env
  | .tup ts, .list ds, env => bindTs ts ds env
  | _, _, _ => none
def bindTs : List Tg → List D → List (Option EV) → Option (List (Option EV))
  | [], [], env => some env
  | t :: ts, d :: ds, env => (bindT t d env).bind fun env' => bindTs ts ds env'
  | _, _, _ => none
end

def wpLoop (step : D → (Stt → Prop) → Stt → Prop) (done : Stt → Prop) : List D → Stt → Prop
  | [], st => done st
  | d :: ds, st => step d (wpLoop step done ds) st
/-- a comprehension's turns: what is made so far is handed on -/
def wpComp (chk : Stt → Prop) (step : D → (Option D → Stt → Prop) → Stt → Prop) (done : List D → Stt → Prop) : List D → List D → Stt → Prop
  | [], acc, st => chk st ∧ done acc st
  | d :: ds, acc, st => chk st ∧ acc.length < SL ∧ step d (fun r st' => match r with
    | some v => wpComp chk step done ds (acc ++ [v]) st'
    | none => wpComp chk step done ds acc st') st

/-- .. of which a turn may put any number of things behind -/
def wpCompL (chk : Stt → Prop) (step : D → List D → (List D → Stt → Prop) → Stt → Prop) (done : List D → Stt → Prop) : List D → List D → Stt → Prop
  | [], acc, st => chk st ∧ done acc st
  | d :: ds, acc, st => chk st ∧ step d acc (fun acc' st' => wpCompL chk step done ds acc' st') st

/-- .. of any sort -/
def wpFold {A : Type} (chk : Stt → Prop) (step : D → A → (A → Stt → Prop) → Stt → Prop) (done : A → Stt → Prop) : List D → A → Stt → Prop
  | [], acc, st => chk st ∧ done acc st
  | d :: ds, acc, st => chk st ∧ step d acc (fun acc' st' => wpFold chk step done ds acc' st') st

structure EndsP where
  nx : Stt → Prop
  rt : Out → Stt → Prop
  bk : Stt → Prop := fun _ => False
  ct : Stt → Prop := fun _ => False
abbrev Pre := List Val → List SObj → (EV → List SObj → Prop) → Prop
abbrev SpecK := String → Pre

def setO (i : Nat) (o : Out) (st : Stt) : Stt := let st' := frz o st
  { st' with env := st'.env.set i (some ⟨(match o.tag with | .fre => true | _ => false), o.val⟩) }
def frzSlots : List Out → Stt → Stt
  | [], st => st
  | o :: os, st => frzSlots os (frz o st)
def setPar : List Nat → List Out → List (Option EV) → List (Option EV)
  | i :: is, o :: os, env => (setPar is os env).set i (some ⟨(match o.tag with | .fre => true | _ => false), o.val⟩)
  | _, _, env => env

mutual
/-- no list, no dict within -/
def tupV : D → Bool
  | .list _ => false
  | .dict _ => false
  | .tuple ds => tupVs ds
  | _ => true
def tupVs : List D → Bool
  | [] => true
  | d :: ds => tupV d && tupVs ds
end
/-- an answer that has no argument within -/
def keepE : EV → Bool
  | ⟨true, .dat (.list ds)⟩ => tupVs ds
  | ⟨true, .dat (.dict es)⟩ => tupVs (es.map (·.2))
  | ⟨false, .dat d⟩ => tupV d
  | _ => false
/-! ### built-ins and methods, by data -/
def allInts (ds : List D) : Bool := (intsOf ds).isSome
def maxI : Int → List Int → Int
  | m, [] => m
  | m, n :: r => maxI (if n > m then n else m) r
def minI : Int → List Int → Int
  | m, [] => m
  | m, n :: r => minI (if n < m then n else m) r
def tupNe : D → Bool
  | .tuple (_ :: _) => true
  | _ => false
/-- data of which the least is asked -/
def leastOk (ds : List D) : Bool := (ds.all fun d => ds.all fun e => PySem.W.alike d e) && ds.all tupNe && decide (ds.length ≤ SL) && ds.all fun d => decide (d.depth ≤ 40) && !d.hasDict
def lenD : List D → Option D
  | [.list ds] => some (.int ds.length)
  | [.tuple ds] => some (.int ds.length)
  | [.dict es] => some (.int es.length)
  | _ => none
def maxD : List D → Option D
  | [.int i, .int j] => some (.int (if j > i then j else i))
  | [.list ds] => match intsOf ds with
    | some (n :: ns) => some (.int (maxI n ns))
    | _ => none
  | _ => none
def minD : List D → Option D
  | [.int i, .int j] => some (.int (if j < i then j else i))
  | [.list ds] => match intsOf ds with
    | some (n :: ns) => some (.int (minI n ns))
    | _ => match ds with
      | x :: xs => if leastOk (x :: xs) = true then some (PySem.W.minD x xs) else none
      | [] => none
  | _ => none
def sumD1 : List D → Option D
  | [.list ds] => (intsOf ds).map fun ns => .int ns.sum
  | [.tuple ds] => (intsOf ds).map fun ns => .int ns.sum
  | _ => none
/-- the items of tuples -/
def partsD : List D → Option (List (List D))
  | [] => some []
  | .tuple xs :: r => (partsD r).map (xs :: ·)
  | _ => none
def sumD : List D → Option D
  | [.tuple ds, .tuple []] => match partsD ds with
    | some xss => if xss.flatten.length ≤ SL then some (.tuple xss.flatten) else none
    | none => none
  | l => sumD1 l
def intD : List D → Option D
  | [.int i] => some (.int i)
  | [.bool b] => some (.int (if b then 1 else 0))
  | _ => none
def absD : List D → Option D
  | [.int i] => some (.int (if i < 0 then -i else i))
  | _ => none
def anyD : List D → Option D
  | [.list ds] => (boolsOf ds).map fun bs => .bool (bs.any id)
  | _ => none
def allD : List D → Option D
  | [.list ds] => (boolsOf ds).map fun bs => .bool (bs.all id)
  | _ => none
def tupD : List D → Option D
  | [.list ds] => some (.tuple ds)
  | [.tuple ds] => some (.tuple ds)
  | _ => none
def lstD : List D → Option D
  | [.list ds] => some (.list ds)
  | [.tuple ds] => some (.list ds)
  | _ => none
mutual
/-- its dicts are empty -/
def dE : D → Bool
  | .list xs => dEs xs
  | .tuple xs => dEs xs
  | .dict es => es.isEmpty
  | _ => true
def dEs : List D → Bool
  | [] => true
  | x :: xs => dE x && dEs xs
end
def reprOk (d : D) : Prop := d.showable = true ∧ d.depth ≤ 100 ∧ d.shown.length ≤ SL ∧ dE d = true
instance (d : D) : Decidable (reprOk d) := by unfold reprOk; exact inferInstance
def repD : List D → Option D
  | [.dict []] => some (.str (PyData.shown (.dict [])))
  | [d] => if reprOk d then some (.str d.shown) else none
  | _ => none
def notTup : D → Bool
  | .tuple _ => false
  | .none => false
  | _ => true
/-- tuples, the first one is () -/
def emptF : List D → Bool
  | .tuple [] :: r => r.all isTup
  | _ => false
/-- data that are sorted by their order -/
def sortOk (ds : List D) : Bool := (ds.all fun d => ds.all fun e => PySem.W.alike d e) && (ds.all tupNe || ds.all notTup || emptF ds) && decide (ds.length ≤ SL) && ds.all fun d => decide (d.depth ≤ 40) && !d.hasDict
def srt (ds : List D) : List D := ds.mergeSort (PySem.W.dataLe false id)
def sortD : List D → Option D
  | [.list ds] => if sortOk ds then some (.list (srt ds)) else none
  | [.tuple ds] => if sortOk ds then some (.list (srt ds)) else none
  | _ => none
/-- how many different ints -/
def ddI (ns : List Int) : Nat := (PyProof.Rows.firstMet (fun i => ns.getD i 0) ns.length).length
/-- pairs of an int and data -/
def pairK : List D → Option (List (Int × D))
  | [] => some []
  | .tuple [.int k, d] :: r => (pairK r).map ((k, d) :: ·)
  | _ :: _ => none
/-- a dict of pairs, later ones win -/
def mkD : List (D × D) → List (Int × D) → List (D × D)
  | es, [] => es
  | es, p :: r => mkD (putD (.int p.1) p.2 es) r
def dictP : List D → Option D
  | [.list ds] => (pairK ds).map fun ps => .dict (mkD [] ps)
  | _ => none
def keysI : List (D × D) → Option (List Int)
  | [] => some []
  | (.int k, _) :: r => (keysI r).map (k :: ·)
  | _ :: _ => none
/-- ints, ascending -/
def ascI (l : List Int) : List Int := l.mergeSort fun a b => decide (a ≤ b)
/-- each one once -/
def nubI (l : List Int) : List Int := l.foldl (fun r x => if x ∈ r then r else r ++ [x]) []
/-- what is asked of a set of ints: how many, or all in order -/
def setI (b : Bool) (acc : List Int) : Option Out := if b then (if (nubI acc).length < 64 then some ⟨.fre, .dat (.list ((ascI (nubI acc)).map .int))⟩ else none) else some ⟨.frz, .dat (.int ((nubI acc).length : Nat))⟩
def sortD2 : List D → Option D
  | [.dict es] => match keysI es with
    | some ks => if ks.length < 64 then some (.list ((ascI ks).map .int)) else none
    | none => none
  | l => sortD l
/-- list(d): its keys -/
def lstD2 : List D → Option D
  | [.dict es] => match keysI es with
    | some (k :: ks) => some (.list ((k :: ks).map .int))
    | _ => none
  | l => lstD l
def bD : BF → List D → Option D
  | .len => lenD
  | .abs => absD
  | .int => intD
  | .max => maxD
  | .min => minD
  | .sum => sumD
  | .any => anyD
  | .all => allD
  | .tuple => tupD
  | .list => lstD2
  | .repr => repD
  | .sorted => sortD2
  | .dict => dictP
/-- methods that change nothing: the object, the arguments -/
def mD : MF → D → List D → Option D
  | _, _, _ => none
def isiD : D → TF → Bool
  | .bool _, .bool => true
  | .bool _, .int => true
  | .int _, .int => true
  | .str _, .str => true
  | .tuple _, .tuple => true
  | .list _, .list => true
  | .dict _, .dict => true
  | _, _ => false
def inD : D → D → Option Bool
  | x, .list ds => if SeqAt.shaped x = true ∧ SeqAt.shaped (.list ds) = true then some (ds.any fun z => PyData.eqv z x) else none
  | x, .tuple ds => if SeqAt.shaped x = true ∧ SeqAt.shaped (.tuple ds) = true then some (ds.any fun z => PyData.eqv z x) else none
  | x, .dict es => if keyOk x = true ∧ kinds x es = true then some (lookD x es).isSome else none
  | _, _ => none
def cmpA : CmpOp → D → D → Option Bool
  | .In, x, y => inD x y
  | .NotIn, x, y => (inD x y).map not
  | op, x, y => cmpD op x y
def nonD : D → Bool
  | .none => true
  | _ => false
def seqD : D → Option (List D)
  | .list ds => some ds
  | .tuple ds => some ds
  | _ => none
def okAs (os : List Out) (st : Stt) : Prop := ∀ o ∈ os, okO o st
def isTupV : Val → Bool
  | .dat (.tuple _) => true
  | _ => false
/-- what is walked -/
def iterV : Val → Option (List D)
  | .dat (.list ds) => some ds
  | .dat (.tuple ds) => some ds
  | .scr ns => some (ns.map PyData.int)
  | _ => none
def enumFrom (k : Int) : List D → List D
  | [] => []
  | d :: ds => .tuple [.int k, d] :: enumFrom (k + 1) ds
def zipD : List D → List D → List D
  | a :: as, b :: bs => .tuple [a, b] :: zipD as bs
  | _, _ => []
def rngD (lo : Int) : Nat → List D
  | 0 => []
  | n + 1 => .int lo :: rngD (lo + 1) n
def bigI (i : Int) : Prop := -(2 ^ 62) ≤ i ∧ i < 2 ^ 62

/-- a value, and it as a test -/
def both (v : PreE) : PreE × PreT := (v, fun Q st => v (fun o st1 => ∃ b, o.val = .dat (.bool b) ∧ Q b st1) st)
section
variable (S : SpecK)
mutual
def wpX : IE → PreE × PreT
  | .var i => both fun Q st => match st.env[i]? with
    | some (some ev) => Q ⟨if ev.own then .slot i else .frz, ev.val⟩ st
    | _ => False
  | .non => both fun Q st => Q ⟨.frz, .dat .none⟩ st
  | .bl b => both fun Q st => Q ⟨.frz, .dat (.bool b)⟩ st
  | .int i => both fun Q st => Q ⟨.frz, .dat (.int i)⟩ st
  | .str x => both fun Q st => Q ⟨.frz, .dat (.str x)⟩ st
  | .bin op a b => both fun Q st => (wpX a).1 (fun o1 st1 => (wpX b).1 (fun o2 st2 => okO o1 st2 ∧ ∃ d1 d2 r, view st2.sto o1.val = some d1 ∧ view st2.sto o2.val = some d2 ∧ binD op d1 d2 = some r ∧ Q (outD r) st2) st1) st
  | .neg a => both fun Q st => (wpX a).1 (fun o st1 => ∃ i, o.val = .dat (.int i) ∧ Q ⟨.frz, .dat (.int (-i))⟩ st1) st
  | .nt a => (fun Q st => (wpX a).2 (fun b st1 => Q ⟨.frz, .dat (.bool (!b))⟩ st1) st, fun Q st => (wpX a).2 (fun b st1 => Q (!b) st1) st)
  | .bop c es => (fun Q st => wpB c es (fun b st1 => Q ⟨.frz, .dat (.bool b)⟩ st1) st, fun Q st => wpB c es Q st)
  | .ife c a b => both fun Q st => (wpX c).2 (fun t st1 => if t then (wpX a).1 Q st1 else (wpX b).1 Q st1) st
  | .tup es => both fun Q st => wpA es (fun os st1 => ∃ ds, dats os = some ds ∧ ds.length ≤ SL ∧ Q ⟨.frz, .dat (.tuple ds)⟩ (frzA os st1)) st
  | .lst es => both fun Q st => wpA es (fun os st1 => ∃ ds, dats os = some ds ∧ ds.length ≤ SL ∧ Q ⟨.fre, .dat (.list ds)⟩ (frzA os st1)) st
  | .cmp op a b => both fun Q st => (wpX a).1 (fun o1 st1 => (wpX b).1 (fun o2 st2 => okO o1 st2 ∧ ∃ d1 d2 r, view st2.sto o1.val = some d1 ∧ view st2.sto o2.val = some d2 ∧ cmpA op d1 d2 = some r ∧ Q ⟨.frz, .dat (.bool r)⟩ st2) st1) st
  | .chain op op' a b c => both fun Q st => (wpX a).1 (fun o1 st1 => (wpX b).1 (fun o2 st2 => okO o1 st2 ∧ ∃ d1 d2 r, view st2.sto o1.val = some d1 ∧ view st2.sto o2.val = some d2 ∧ cmpA op d1 d2 = some r ∧
      if r then (wpX c).1 (fun o3 st3 => okO o2 st3 ∧ ∃ d2' d3 r', view st3.sto o2.val = some d2' ∧ view st3.sto o3.val = some d3 ∧ cmpA op' d2' d3 = some r' ∧ Q ⟨.frz, .dat (.bool r')⟩ st3) st2
      else Q ⟨.frz, .dat (.bool false)⟩ st2) st1) st
  | .call f es => both fun Q st => wpA es (fun os st1 => S f (os.map (·.val)) st1.sto (fun r sto' =>
      Q ⟨if r.own then .fre else .frz, r.val⟩ (if scalarV r.val then { st1 with sto := sto' } else { frzA os st1 with sto := sto' }))) st
  | .callK f es => both fun Q st => wpA es (fun os st1 => S f (os.map (·.val)) st1.sto (fun r sto' => keepE r = true ∧
      Q ⟨if r.own then .fre else .frz, r.val⟩ { st1 with sto := sto' })) st
  | .bcl f es => both fun Q st => wpA es (fun os st1 => ∃ ds r, views st1.sto os = some ds ∧ bD f ds = some r ∧ Q (outD r) st1) st
  | .mth m o es => both fun Q st => (wpX o).1 (fun oo st1 => wpA es (fun os st2 => okO oo st2 ∧ ∃ d ds r, view st2.sto oo.val = some d ∧ views st2.sto os = some ds ∧ mD m d ds = some r ∧ Q (outD r) st2) st1) st
  | .app o e => both fun Q st => (wpX o).1 (fun oo st1 => (lstOf oo st1).isSome = true ∧ (wpX e).1 (fun ov st2 => ∃ st3, appS oo ov st2 = some st3 ∧ Q ⟨.frz, .dat .none⟩ st3) st1) st
  | .upd o e => both fun Q st => (wpX o).1 (fun oo st1 => ownDct oo st1 = true ∧ (wpX e).1 (fun ov st2 => ∃ st3, updS oo ov st2 = some st3 ∧ Q ⟨.frz, .dat .none⟩ st3) st1) st
  | .ext o e => both fun Q st => (wpX o).1 (fun oo st1 => (lstOf oo st1).isSome = true ∧ (wpX e).1 (fun ov st2 => ∃ st3, extS oo ov st2 = some st3 ∧ Q ⟨.frz, .dat .none⟩ st3) st1) st
  | .rmd o e => both fun Q st => (wpX o).1 (fun oo st1 => (lstOf oo st1).isSome = true ∧ (wpX e).1 (fun ov st2 => ∃ st3, rmdS oo ov st2 = some st3 ∧ Q ⟨.frz, .dat .none⟩ st3) st1) st
  | .fnd o e => both fun Q st => (wpX o).1 (fun oo st1 => (∃ ds0, view st1.sto oo.val = some (.list ds0)) ∧ (wpX e).1 (fun ov st2 => okO oo st2 ∧ ∃ ds d j, view st2.sto oo.val = some (.list ds) ∧ view st2.sto ov.val = some d ∧ SeqAt.shaped (.list ds) = true ∧ SeqAt.shaped d = true ∧ findD d ds 0 = some j ∧ Q ⟨.frz, .dat (.int (j : Int))⟩ st2) st1) st
  | .ctd o e => both fun Q st => (wpX o).1 (fun oo st1 => (∃ ds0, view st1.sto oo.val = some (.list ds0)) ∧ (wpX e).1 (fun ov st2 => okO oo st2 ∧ ∃ ds d, view st2.sto oo.val = some (.list ds) ∧ view st2.sto ov.val = some d ∧ SeqAt.shaped (.list ds) = true ∧ SeqAt.shaped d = true ∧ Q ⟨.frz, .dat (.int (countD d ds : Int))⟩ st2) st1) st
  | .pop o es => both fun Q st => (wpX o).1 (fun oo st1 => (lstOf oo st1).isSome = true ∧ wpA es (fun os st2 => ∃ d st3, popS oo (os.map (·.val)) st2 = some (d, st3) ∧ Q ⟨.frz, .dat d⟩ st3) st1) st
  | .rmv o e => both fun Q st => (wpX o).1 (fun oo st1 => (lstOf oo st1).isSome = true ∧ (wpX e).1 (fun ov st2 => ∃ n st3, ov.val = .dat (.int n) ∧ rmvS oo n st2 = some st3 ∧ Q ⟨.frz, .dat .none⟩ st3) st1) st
  | .idx o i => both fun Q st => (wpX o).1 (fun oo st1 => (wpX i).1 (fun oi st2 => okO oo st2 ∧ ∃ r, getS st2.sto oo.val oi.val = some r ∧ Q r st2) st1) st
  | .slc o lo hi => both fun Q st => (wpX o).1 (fun oo st1 => wpO lo (fun l st2 => wpO hi (fun h st3 => okO oo st3 ∧ ∃ d r, view st3.sto oo.val = some d ∧ slcD d l h = some r ∧ Q (outD r) st3) st2) st1) st
  | .rev o => both fun Q st => (wpX o).1 (fun oo st1 => ∃ d r, view st1.sto oo.val = some d ∧ revD d = some r ∧ Q (outD r) st1) st
  | .comp elt tg it cond own => both fun Q st => wpI it (fun ds os st1 => wpComp (okAs os) (fun d K st2 => ∃ env', bindT tg d (wipeE own st2.env) = some env' ∧
        wpC cond (fun b st3 => if b then (wpX elt).1 (fun o st4 => ∃ v, o.val = .dat v ∧ K (some v) { frz o st4 with env := wipeE own (frz o st4).env }) st3 else K none { st3 with env := wipeE own st3.env }) { st2 with env := env' })
      (fun acc st5 => Q ⟨.fre, .dat (.list acc)⟩ { st5 with env := backE own st1.env st5.env }) ds [] { st1 with env := wipeE own st1.env }) st
  | .comp2 elt tg it cond tg1 it1 cond1 own own1 => both fun Q st => wpI it (fun ds os st1 => wpCompL (okAs os) (fun d acc K st2 => ∃ env', bindT tg d (wipeE own st2.env) = some env' ∧
        wpC cond (fun b st3 => if b then wpI it1 (fun ds1 os1 st4 => wpComp (okAs os1) (fun d1 K1 st5 => ∃ env1, bindT tg1 d1 (wipeE own1 st5.env) = some env1 ∧
            wpC cond1 (fun b1 st6 => if b1 then (wpX elt).1 (fun o st7 => ∃ v, o.val = .dat v ∧ K1 (some v) { frz o st7 with env := wipeE own1 (frz o st7).env }) st6 else K1 none { st6 with env := wipeE own1 st6.env }) { st5 with env := env1 })
          (fun acc' st8 => K acc' { st8 with env := wipeE own st8.env }) ds1 acc { st4 with env := wipeE own1 st4.env }) st3 else K acc { st3 with env := wipeE own st3.env }) { st2 with env := env' })
      (fun acc st9 => Q ⟨.fre, .dat (.list acc)⟩ { st9 with env := backE own st1.env st9.env }) ds [] { st1 with env := wipeE own st1.env }) st
  | .lset e => both fun Q st => (wpX e).1 (fun o st1 => ∃ ns : List Int, view st1.sto o.val = some (.list (ns.map PyData.int)) ∧ ns.length ≤ 4000 ∧ Q ⟨.frz, .dat (.int (ddI ns : Nat))⟩ st1) st
  | .dct1 k v => both fun Q st => (wpX k).1 (fun ok st1 => ∃ n, ok.val = .dat (.int n) ∧ (wpX v).1 (fun o st2 => ∃ d, o.val = .dat d ∧ Q ⟨.fre, .dat (.dict [(.int n, d)])⟩ (frz o st2)) st1) st
  | .dcp kx vx tg it cond own => both fun Q st => wpI it (fun ds os st1 => wpFold (okAs os) (fun d (acc : List (D × D)) K st2 => ∃ env', bindT tg d (wipeE own st2.env) = some env' ∧
        wpC cond (fun b st3 => if b then (wpX kx).1 (fun ok st4 => ∃ n, ok.val = .dat (.int n) ∧ acc.length < SL ∧ (wpX vx).1 (fun o st5 => ∃ v, o.val = .dat v ∧ K (putD (.int n) v acc) { frz o st5 with env := wipeE own (frz o st5).env }) st4) st3 else K acc { st3 with env := wipeE own st3.env }) { st2 with env := env' })
      (fun acc st9 => Q ⟨.fre, .dat (.dict acc)⟩ { st9 with env := backE own st1.env st9.env }) ds [] { st1 with env := wipeE own st1.env }) st
  | .sco b elt tg it cond own => both fun Q st => wpI it (fun ds os st1 => wpFold (okAs os) (fun d (acc : List Int) K st2 => ∃ env', bindT tg d (wipeE own st2.env) = some env' ∧
        wpC cond (fun t st3 => if t then (wpX elt).1 (fun o st4 => ∃ n, o.val = .dat (.int n) ∧ acc.length < 4000 ∧ K (acc ++ [n]) { st4 with env := wipeE own st4.env }) st3 else K acc { st3 with env := wipeE own st3.env }) { st2 with env := env' })
      (fun acc st9 => ∃ o, setI b acc = some o ∧ Q o { st9 with env := backE own st1.env st9.env }) ds [] { st1 with env := wipeE own st1.env }) st
  | .dnew t => both fun Q st => Q ⟨.fre, .dat (.dict [])⟩ st
  | .rcd fs => both fun Q st => wpR fs (fun vs st1 => Q ⟨.frz, .ref (st1.sto.length)⟩ { st1 with sto := st1.sto ++ [.rcd vs] }) st
  | .isi e t => both fun Q st => (wpX e).1 (fun o st1 => ∃ d, view st1.sto o.val = some d ∧ Q ⟨.frz, .dat (.bool (isiD d t))⟩ st1) st
  | .isN neg e => both fun Q st => (wpX e).1 (fun o st1 => ∃ d, o.val = .dat d ∧ Q ⟨.frz, .dat (.bool (if neg then !nonD d else nonD d))⟩ st1) st
  | .lrg t it => both fun Q st => match it with
    | .rg1 a => (wpX a).1 (fun o st1 => ∃ i, o.val = .dat (.int i) ∧ (-1 ≤ i ∧ i < 16777216) ∧ Q (outD (if t then .tuple (rngD 0 i.toNat) else .list (rngD 0 i.toNat))) st1) st
    | .rg2 a b => (wpX a).1 (fun o1 st1 => (wpX b).1 (fun o2 st2 => ∃ i j, o1.val = .dat (.int i) ∧ o2.val = .dat (.int j) ∧ (-1 ≤ i ∧ i < 16777216) ∧ (-1 ≤ j ∧ j < 16777216) ∧ Q (outD (if t then .tuple (rngD i (j - i).toNat) else .list (rngD i (j - i).toNat))) st2) st1) st
    | _ => False
def wpA : IEs → PreA
  | .nil, Q, st => Q [] st
  | .cons e es, Q, st => (wpX e).1 (fun o st1 => wpA es (fun os st2 => okO o st2 ∧ Q (o :: os) st2) st1) st
  | .star e es, Q, st => (wpX e).1 (fun o st1 => ∃ d ds, view st1.sto o.val = some d ∧ seqD d = some ds ∧ wpA es (fun os st2 => Q (ds.map (fun d => ⟨.frz, .dat d⟩) ++ os) st2) st1) st

/-- and (true), or (false), from the left -/
def wpB : Bool → IEs → PreT
  | c, .nil, Q, st => Q c st
  | c, .cons e es, Q, st => (wpX e).2 (fun b st1 => if b = c then wpB c es Q st1 else Q (!c) st1) st
  | _, .star _ _, _, _ => False
def wpC : IO → PreT
  | .no, Q, st => Q true st
  | .so e, Q, st => (wpX e).2 Q st
def wpO : IO → (Option Int → Stt → Prop) → Stt → Prop
  | .no, Q, st => Q none st
  | .so e, Q, st => (wpX e).1 (fun o st1 => ∃ i, o.val = .dat (.int i) ∧ Q (some i) st1) st
def wpI : II → (List D → List Out → Stt → Prop) → Stt → Prop
  | .ex e, Q, st => (wpX e).1 (fun o st1 => ∃ ds, iterV o.val = some ds ∧ Q ds [o] st1) st
  | .rg1 a, Q, st => (wpX a).1 (fun o st1 => ∃ i, o.val = .dat (.int i) ∧ bigI i ∧ Q (rngD 0 i.toNat) [] st1) st
  | .rg2 a b, Q, st => (wpX a).1 (fun o st1 => (wpX b).1 (fun o' st2 => ∃ i j, o.val = .dat (.int i) ∧ o'.val = .dat (.int j) ∧ bigI i ∧ bigI j ∧ Q (rngD i (j - i).toNat) [] st2) st1) st
  | .rg3 a b c, Q, st => (wpX a).1 (fun o st1 => (wpX b).1 (fun o' st2 => (wpX c).1 (fun o'' st3 => ∃ i j, o.val = .dat (.int i) ∧ o'.val = .dat (.int j) ∧ o''.val = .dat (.int 2) ∧ bigI i ∧ bigI j ∧ Q (rngS i ((j - i + 1) / 2).toNat) [] st3) st2) st1) st
  | .enm e, Q, st => (wpX e).1 (fun o st1 => ∃ ds, iterV o.val = some ds ∧ Q (enumFrom 0 ds) [o] st1) st
  | .zip a b, Q, st => (wpX a).1 (fun o st1 => (wpX b).1 (fun o' st2 => okO o st2 ∧ ∃ ds es, iterV o.val = some ds ∧ iterV o'.val = some es ∧ isTupV o.val = isTupV o'.val ∧ Q (zipD ds es) [o, o'] st2) st1) st
  | .zps a b, Q, st => (wpX a).1 (fun o st1 => (wpX b).1 (fun o' st2 => okO o st2 ∧ ∃ ds es, iterV o.val = some ds ∧ iterV o'.val = some es ∧ ds.length = es.length ∧ Q (zipD ds es) [o, o'] st2) st1) st
def wpR : IR → (List (Str × SV) → Stt → Prop) → Stt → Prop
  | .nil, Q, st => Q [] st
  | .cons x e fs, Q, st => (wpX e).1 (fun o st1 => (∃ i, o.val = .dat (.int i) ∧ wpR fs (fun vs st2 => Q ((x, .int i) :: vs) st2) st1) ∨
      (∃ ns, o = ⟨.fre, .dat (.list (ns.map PyData.int))⟩ ∧ wpR fs (fun vs st2 => Q ((x, .ref st1.sto.length) :: vs) st2) { st1 with sto := st1.sto ++ [.lst ns] })) st
end
end
/-- an expression as a value, as a test -/
def wpE (S : SpecK) (e : IE) : PreE := (wpX S e).1
def wpT (S : SpecK) (e : IE) : PreT := (wpX S e).2

section
variable (S : SpecK)
mutual
def wpS : IS → EndsP → Stt → Prop
  | .asg i e, E, st => wpE S e (fun o st1 => i < st1.env.length ∧ E.nx (setO i o st1)) st
  | .aug i e, E, st => (∃ v, st.env[i]? = some (some ⟨false, .dat v⟩)) ∧ wpE S e (fun o st1 => ∃ a b, st1.env[i]? = some (some ⟨false, .dat (.int a)⟩) ∧ o.val = .dat (.int b) ∧ E.nx { st1 with env := st1.env.set i (some ⟨false, .dat (.int (a + b))⟩) }) st
  | .par is es, E, st => wpA S es (fun os st1 => os.length = is.length ∧ (∀ i ∈ is, i < st1.env.length) ∧ E.nx { frzSlots os st1 with env := setPar is os (frzSlots os st1).env }) st
  | .unp tg e, E, st => wpE S e (fun o st1 => ∃ d env', o.val = .dat d ∧ bindT tg d (frz o st1).env = some env' ∧ E.nx { frz o st1 with env := env' }) st
  | .put o k e, E, st => wpE S e (fun ov st1 => wpE S o (fun oo st2 => wpE S k (fun ok st3 => okO ov st3 ∧ okO oo st3 ∧ ∃ st4, putS oo ok ov st3 = some st4 ∧ E.nx st4) st2) st1) st
  | .del o k, E, st => wpE S o (fun oo st1 => wpE S k (fun ok st2 => okO oo st2 ∧ ∃ n st3, ok.val = .dat (.int n) ∧ delS oo n st2 = some st3 ∧ E.nx st3) st1) st
  | .exp e, E, st => wpE S e (fun _ st1 => E.nx st1) st
  | .ret e, E, st => wpE S e E.rt st
  | .retN, E, st => E.rt ⟨.frz, .dat .none⟩ st
  | .ife c t e, E, st => wpT S c (fun b st1 => if b then wpSs t E st1 else wpSs e E st1) st
  | .whl c b, E, st => ∃ W : Nat → Stt → Prop, (∃ m, W m st) ∧ ∀ m st', W m st' → wpT S c (fun t st1 => if t then wpSs b { E with nx := fun s => ∃ m', m' < m ∧ W m' s, ct := fun s => ∃ m', m' < m ∧ W m' s, bk := E.nx } st1 else E.nx st1) st'
  | .for_ tg it b, E, st => wpI S it (fun ds os st1 => wpLoop (fun d K st2 => ∃ env', bindT tg d st2.env = some env' ∧ wpSs b { E with nx := K, ct := K, bk := E.nx } { st2 with env := env' }) E.nx ds (frzA os st1)) st
  | .brk, E, st => E.bk st
  | .cnt, E, st => E.ct st
  | .pas, E, st => E.nx st
  | .rais, _, _ => False
def wpSs : ISs → EndsP → Stt → Prop
  | .nil, E, st => E.nx st
  | .cons s ss, E, st => wpS s { E with nx := wpSs ss E } st
end
end
end Ev
end

section
set_option Elab.async false
set_option linter.all false
set_option maxRecDepth 100000
/-! Ev3: readings made of weakest preconditions; steps; freezing. -/
namespace Ev
open PySem PySem.Spec PyProof.Rows L2

section
variable {K : PySem.W.Frag} {ρ ρ' ρ1 ρ2 : List Addr} {st st' st1 st2 : Stt} {W W' W1 W2 : Addr → Prop} {σ σ' σ1 σ2 : L2.St} {H H' H1 H2 H0 : Hp}

/-- H' has all that H has -/
def Ext (H H' : Hp) : Prop := ∀ a o, H a = some o → H' a = some o
theorem Ext.refl : Ext H H := fun _ _ h => h
theorem Ext.trans (a : Ext H H1) (b : Ext H1 H2) : Ext H H2 := fun x o h => b x o (a x o h)
theorem Ext.upd {p : Addr} {o : HO} (h : H p = none) : Ext H (upd H p o) := fun a q e => by rw [upd_ne (ne_of_none e h)]; exact e
theorem Ext.free (e : Ext H H') {a : Addr} (h : H' a = none) : H a = none := by
  cases q : H a with
  | none => rfl
  | some o => rw [e a o q] at h; cases h

theorem RS.ext {a : Addr} {o : SObj} (h : RS ρ H a o) (e : H' a = H a) (p : ρ <+: ρ') : RS ρ' H' a o := by
  cases o with
  | rcd fs =>
    obtain ⟨kvs, h1, h2⟩ := h
    refine ⟨kvs, e.trans h1, Paired.mapP h2 fun x y ⟨z1, z2⟩ => ⟨z1, ?_⟩⟩
    cases hy : y.2 with
    | int i => rw [hy] at z2; exact z2
    | ref j =>
      rw [hy] at z2
      obtain ⟨b, q1, q2⟩ := z2
      obtain ⟨t, rfl⟩ := p
      exact ⟨b, by rw [List.getElem?_append_left (List.getElem?_eq_some_iff.mp q1).1]; exact q1, q2⟩
  | lst ns => exact e.trans h

/-- new objects; some of them may be written -/
theorem Rel.grow (r : Rel K ρ st W σ H) (e : Ext H H') (w1 : ∀ a, W a → W' a) (w2 : ∀ a, W' a → W a ∨ (H a = none ∧ H' a ≠ none)) : Step K ρ st W σ H ρ st W' σ H' := by
  have eq : ∀ a, H a ≠ none → H' a = H a := fun a h => by
    cases q : H a with
    | none => exact absurd q h
    | some o => exact e a o q
  have pr : Pres W H W' H' := fun a o w q => ⟨fun z => (w2 a z).elim w (fun y => nomatch y.1.symm.trans q), e a o q⟩
  refine ⟨⟨⟨r.s.len, r.s.nd, fun j o a h1 h2 => ?_, fun a w => ?_⟩, r.len, fun i val h => ?_, fun i val h => ?_, r.ap⟩, ⟨pr, fun a w _ => ⟨w1 a w, eq a (r.s.wn a w)⟩, fun a h => ?_⟩, List.prefix_refl _, fun a l => .inl l⟩
  · obtain ⟨w, q⟩ := r.s.at_ j o a h1 h2
    exact ⟨w1 a w, q.ext (eq a (r.s.wn a w)) (List.prefix_refl _)⟩
  · rcases w2 a w with w | w
    · rw [eq a (r.s.wn a w)]; exact r.s.wn a w
    · exact w.2
  · obtain ⟨v, h1, h2⟩ := r.fz i val h
    exact ⟨v, h1, h2.pres pr (List.prefix_refl _)⟩
  · obtain ⟨a, d, h1, h2, h3, h4, h5⟩ := r.ow i val h
    exact ⟨a, d, h1, h2, w1 a h3, h4.pres pr (eq a h4.there), h5⟩
  · rw [eq a h]; exact h

/-! ### what an operation gives -/
def Res (W : Addr → Prop) (H H' : Hp) (z : V) (r : D) : Prop := Ext H H' ∧
  if isFresh r then ∃ a, z = .ref a ∧ H a = none ∧ RO (fun b => W b ∨ b = a) H' a r else R W H' z r
theorem Res.step {z : V} {d : D} (r : Rel K ρ st W σ H) (q : Res W H H' z d) (h0 : ∀ a, H a = none → H0 a = none) : ∃ W', Step K ρ st W σ H ρ st W' σ H' ∧ RT K ρ st.env W' σ H' H0 (outD d) z := by
  obtain ⟨e, q⟩ := q
  unfold outD
  by_cases f : isFresh d = true
  · rw [if_pos f] at q ⊢
    obtain ⟨a, rfl, hn, ro⟩ := q
    refine ⟨fun b => W b ∨ b = a, r.grow e (fun b w => .inl w) (fun b w => w.elim .inl fun z => .inr (by subst z; exact ⟨hn, ro.there⟩)), a, d, rfl, rfl, .inr rfl, ro, fun l => ?_, h0 a hn⟩
    rcases l with l | ⟨i, val, l1, l2⟩
    · obtain ⟨j, hj⟩ := List.mem_iff_getElem?.mp l
      have hl : j < st.sto.length := by rw [r.s.len]; exact (List.getElem?_eq_some_iff.mp hj).1
      exact r.s.wn a (r.s.at_ j _ a (List.getElem?_eq_getElem hl) hj).1 hn
    · obtain ⟨b, d', _, l3, w, _⟩ := r.ow i val l1
      rw [l3] at l2; cases l2
      exact r.s.wn a w hn
  · rw [if_neg f] at q ⊢
    exact ⟨W, r.grow e (fun _ w => w) (fun _ w => .inl w), q⟩
theorem Lc.there (r : Rel K ρ st W σ H) {a : Addr} (l : Lc ρ st.env σ a) : W a ∧ H a ≠ none := by
  rcases l with l | ⟨i, val, l1, l2⟩
  · obtain ⟨j, hj⟩ := List.mem_iff_getElem?.mp l
    have hl : j < st.sto.length := by rw [r.s.len]; exact (List.getElem?_eq_some_iff.mp hj).1
    have w := (r.s.at_ j _ a (List.getElem?_eq_getElem hl) hj).1
    exact ⟨w, r.s.wn a w⟩
  · obtain ⟨b, d', _, l3, w, _⟩ := r.ow i val l1
    rw [l3] at l2; cases l2
    exact ⟨w, r.s.wn a w⟩

/-! ### readings -/
def TE' (K : PySem.W.Frag) (wp : PreE) : TE := fun σ H Q => ∃ ρ st W P, Rel K ρ st W σ H ∧ wp P st ∧
  ∀ o st' ρ' W' H' x, P o st' → Step K ρ st W σ H ρ' st' W' σ H' → RT K ρ' st'.env W' σ H' H o x → Q x H'
def TT' (K : PySem.W.Frag) (wp : PreT) : TT := fun σ H Q => ∃ ρ st W P, Rel K ρ st W σ H ∧ wp P st ∧
  ∀ b st' ρ' W' H', P b st' → Step K ρ st W σ H ρ' st' W' σ H' → Q b H'
/-- several outs: those that are new stand apart -/
inductive ROs (K : PySem.W.Frag) (ρ : List Addr) (env : List (Option EV)) (W : Addr → Prop) (σ : L2.St) (H H0 : Hp) : List Out → List V → Prop
  | nil : ROs K ρ env W σ H H0 [] []
  | cons {o : Out} {x : V} {os : List Out} {xs : List V} : RT K ρ env W σ H H0 o x → ROs K ρ env W σ H H0 os xs →
      (o.tag = .fre → ∀ (k : Nat) (o' : Out) (x' : V), os[k]? = some o' → xs[k]? = some x' → o'.tag = .fre → x' ≠ x) → ROs K ρ env W σ H H0 (o :: os) (x :: xs)
def okA (os : List Out) (st : Stt) : Prop := ∀ o ∈ os, okO o st
def TA' (K : PySem.W.Frag) (wp : PreA) : TA := fun σ H Q => ∃ ρ st W P, Rel K ρ st W σ H ∧ wp P st ∧
  ∀ os st' ρ' W' H' xs, P os st' → Step K ρ st W σ H ρ' st' W' σ H' → ROs K ρ' st'.env W' σ H' H os xs → Q xs H'

theorem _root_.L2.PE.weak {X : Cx} {e : Expr} {t t' : TE} (h : PE X e t) (w : ∀ σ H Q, t' σ H Q → t σ H Q) : PE X e t' := ⟨fun pins s σ H Q I hw => h.run pins s σ H Q I (w _ _ _ hw)⟩
theorem _root_.L2.PT.weak {X : Cx} {e : Expr} {t t' : TT} (h : PT X e t) (w : ∀ σ H Q, t' σ H Q → t σ H Q) : PT X e t' := ⟨fun pins s σ H Q I hw => h.run pins s σ H Q I (w _ _ _ hw)⟩
theorem _root_.L2.PW.weak {X : Cx} {e : Expr} {t t' : TT} (h : PW X e t) (w : ∀ σ H Q, t' σ H Q → t σ H Q) : PW X e t' := ⟨fun wh pins s σ H Q I hw => h.run wh pins s σ H Q I (w _ _ _ hw)⟩
theorem _root_.L2.PA.weak {X : Cx} {e : List Expr} {t t' : TA} (h : PA X e t) (w : ∀ σ H Q, t' σ H Q → t σ H Q) : PA X e t' := ⟨fun pos pins s σ H Q I hw => h.run pos pins s σ H Q I (w _ _ _ hw)⟩
theorem _root_.L2.PS.weak {X : Cx} {e : Stmt} {t t' : TS} (h : PS X e t) (w : ∀ D σ H, t' D σ H → t D σ H) : PS X e t' := ⟨fun pins s σ H D I hw => h.run pins s σ H D I (w _ _ _ hw)⟩
theorem _root_.L2.PSs.weak {X : Cx} {e : List Stmt} {t t' : TS} (h : PSs X e t) (w : ∀ D σ H, t' D σ H → t D σ H) : PSs X e t' := ⟨fun pins s σ H D I hw => h.run pins s σ H D I (w _ _ _ hw)⟩

theorem Step.free (s : Step K ρ st W σ H ρ' st' W' σ' H') {a : Addr} (h : H' a = none) : H a = none := by
  cases q : H a with
  | none => rfl
  | some o => exact absurd h (s.fr.there a (by rw [q]; simp))
theorem ROs.length {os : List Out} {xs : List V} (h : ROs K ρ st.env W σ H H0 os xs) : os.length = xs.length := by
  induction h with
  | nil => rfl
  | cons _ _ _ ih => simp [ih]
theorem ROs.get {env : List (Option EV)} : ∀ {os : List Out} {xs : List V} {k : Nat} {o : Out}, ROs K ρ env W σ H H0 os xs → os[k]? = some o → ∃ x, xs[k]? = some x ∧ RT K ρ env W σ H H0 o x
  | _, _, _, _, .nil, e => by simp at e
  | _, _, 0, _, .cons r _ _, e => by simp at e; subst e; exact ⟨_, rfl, r⟩
  | _, _, k + 1, _, .cons _ r _, e => by
    obtain ⟨x, h1, h2⟩ := ROs.get (k := k) r (by simpa using e)
    exact ⟨x, by simpa using h1, h2⟩
theorem ROs.later {os : List Out} {xs : List V} (s : Step K ρ st W σ H ρ' st' W' σ H') (r : Rel K ρ st W σ H) (h : ROs K ρ st.env W σ H H0 os xs) (ok : okA os st') : ROs K ρ' st'.env W' σ H' H0 os xs := by
  induction h with
  | nil => exact .nil
  | cons a b c ih => exact .cons (a.later s r (ok _ List.mem_cons_self)) (ih fun o ho => ok o (List.mem_cons_of_mem _ ho)) c
/-- the data that outs show -/
theorem ROs.read : ∀ {os : List Out} {xs : List V} {ds : List D}, Rel K ρ st W σ H → ROs K ρ st.env W σ H H0 os xs → views st.sto os = some ds → Paired (RR W H) xs ds
  | [], _, _, r, .nil, e => by simp only [views] at e; cases e; exact .nil
  | o :: os, _, ds, r, .cons (x := x) (xs := xs) a b _, e => by
    simp only [views] at e
    cases q1 : view st.sto o.val with
    | none => rw [q1] at e; cases e
    | some d1 =>
      cases q2 : views st.sto os with
      | none => rw [q1, q2] at e; cases e
      | some ds' =>
        rw [q1, q2] at e
        cases e
        exact .cons (a.read r q1) (ROs.read r b q2)

/-! ### freezing -/
/-- the addresses of outs that are no longer to be written -/
def Adr (os : List Out) (xs : List V) (a : Addr) : Prop := ∃ (k : Nat) (o : Out), os[k]? = some o ∧ xs[k]? = some (V.ref a) ∧ (o.tag = .fre ∨ ∃ i, o.tag = .slot i)
def frzEnv : List Out → List (Option EV) → List (Option EV)
  | [], env => env
  | o :: os, env => frzEnv os (match o.tag with
    | .slot i => env.set i (some ⟨false, o.val⟩)
    | _ => env)
theorem frzA_eq : ∀ (os : List Out) (st : Stt), frzA os st = { st with env := frzEnv os st.env }
  | [], st => rfl
  | o :: os, st => by
    unfold frzA frzEnv
    rw [frzA_eq os]
    unfold frz
    cases o.tag <;> rfl
theorem frzEnv_len : ∀ (os : List Out) (env : List (Option EV)), (frzEnv os env).length = env.length
  | [], _ => rfl
  | o :: os, env => by
    unfold frzEnv
    rw [frzEnv_len os]
    cases o.tag <;> simp
/-- a slot behind it: as it was, or frozen with the out's value -/
theorem frzEnv_at : ∀ (os : List Out) (env : List (Option EV)) (i : Nat), (frzEnv os env)[i]? = env[i]? ∧ (∀ o ∈ os, o.tag ≠ .slot i) ∨ ∃ o ∈ os, o.tag = .slot i ∧ (i < env.length → (frzEnv os env)[i]? = some (some ⟨false, o.val⟩))
  | [], env, i => .inl ⟨rfl, fun o h => absurd h (by simp)⟩
  | o :: os, env, i => by
    unfold frzEnv
    rcases frzEnv_at os (match o.tag with | .slot i => env.set i (some ⟨false, o.val⟩) | _ => env) i with ⟨h1, h2⟩ | ⟨o', h1, h2, h3⟩
    · by_cases e : o.tag = .slot i
      · refine .inr ⟨o, List.mem_cons_self, e, fun hl => ?_⟩
        rw [h1, e]
        exact List.getElem?_set_self hl
      · refine .inl ⟨?_, fun o' ho => ?_⟩
        · rw [h1]
          cases q : o.tag with
          | slot j =>
            have : j ≠ i := fun z => e (by rw [q, z])
            exact List.getElem?_set_ne this
          | frz => rfl
          | fre => rfl
        · rcases List.mem_cons.mp ho with rfl | ho
          · exact e
          · exact h2 o' ho
    · refine .inr ⟨o', List.mem_cons_of_mem _ h1, h2, fun hl => h3 ?_⟩
      cases o.tag <;> simpa using hl

/-- all outs frozen, seen from where they began -/
theorem freeze {ρ0 : List Addr} {st0 : Stt} {W0 : Addr → Prop} {σ : L2.St} {H0 : Hp} {os : List Out} {xs : List V} (r0 : Rel K ρ0 st0 W0 σ H0) (s : Step K ρ0 st0 W0 σ H0 ρ st W σ H) (h : ROs K ρ st.env W σ H H0 os xs) :
    ∃ W', Step K ρ0 st0 W0 σ H0 ρ (frzA os st) W' σ H ∧ Pres W H W' H ∧ (∀ a, W' a ↔ W a ∧ ¬ Adr os xs a) ∧ ∀ (k : Nat) (o : Out), os[k]? = some o → ∃ x, xs[k]? = some x ∧ RVal K ρ W' H o.val x := by
  have r := s.rel
  let W' : Addr → Prop := fun a => W a ∧ ¬ Adr os xs a
  have pr : Pres W H W' H := fun a o w e => ⟨fun z => w z.1, e⟩
  -- an address that is frozen belonged to a slot, or was new
  have adr : ∀ a, Adr os xs a → (∃ i val, st.env[i]? = some (some ⟨true, val⟩) ∧ σ[i]? = some (some (.ref a)) ∧ ∃ o ∈ os, o.tag = .slot i) ∨ (¬ Lc ρ st.env σ a ∧ H0 a = none) := by
    rintro a ⟨k, o, hk, hx, ht⟩
    obtain ⟨x, hx', rt⟩ := h.get hk
    rw [hx] at hx'; cases hx'
    rcases ht with ht | ⟨i, ht⟩
    · right
      unfold RT at rt
      rw [ht] at rt
      obtain ⟨b, d, _, e, _, _, l, n⟩ := rt
      cases e
      exact ⟨l, n⟩
    · left
      unfold RT at rt
      rw [ht] at rt
      exact ⟨i, _, rt.1, rt.2, o, List.mem_of_getElem? hk, ht⟩
  have vals : ∀ (k : Nat) (o : Out), os[k]? = some o → ∃ x, xs[k]? = some x ∧ RVal K ρ W' H o.val x := by
    intro k o hk
    obtain ⟨x, hx, rt⟩ := h.get hk
    refine ⟨x, hx, ?_⟩
    cases ht : o.tag with
    | frz =>
      unfold RT at rt
      rw [ht] at rt
      exact RVal.pres rt pr (List.prefix_refl _)
    | fre =>
      unfold RT at rt
      rw [ht] at rt
      obtain ⟨b, d, e1, e2, w, ro, l, n⟩ := rt
      subst e2
      rw [e1]
      exact ro.freeze (W' := W') (fun b w z => w z.1) fun z => z.2 ⟨k, o, hk, hx, .inl ht⟩
    | slot i =>
      unfold RT at rt
      rw [ht] at rt
      obtain ⟨a, d, e1, e2, w, ro, l⟩ := r.ow i _ rt.1
      have := rt.2
      rw [e2] at this; cases this
      rw [e1]
      exact ro.freeze (W' := W') (fun b w z => w z.1) fun z => z.2 ⟨k, o, hk, hx, .inr ⟨i, ht⟩⟩
  -- a slot that is still owned
  have owned : ∀ (i : Nat) (val : Val), (frzA os st).env[i]? = some (some ⟨true, val⟩) → st.env[i]? = some (some ⟨true, val⟩) ∧ ∀ o ∈ os, o.tag ≠ .slot i := by
    intro i val e
    rw [frzA_eq] at e
    have e : (frzEnv os st.env)[i]? = some (some ⟨true, val⟩) := e
    have hl : i < st.env.length := by
      have := (List.getElem?_eq_some_iff.mp e).1
      rw [frzEnv_len] at this
      exact this
    rcases frzEnv_at os st.env i with ⟨h1, h2⟩ | ⟨o, h1, h2, h3⟩
    · exact ⟨h1 ▸ e, h2⟩
    · rw [h3 hl] at e; cases e
  have keepsW : ∀ (i : Nat) (val : Val) (a : Addr), (frzA os st).env[i]? = some (some ⟨true, val⟩) → σ[i]? = some (some (.ref a)) → ¬ Adr os xs a := by
    intro i val a e ha z
    obtain ⟨e', hn⟩ := owned i val e
    rcases adr a z with ⟨j, vj, h1, h2, o, ho, ht⟩ | ⟨l, _⟩
    · have := r.ap i j _ _ a e' h1 ha h2
      subst this
      exact hn o ho ht
    · exact l (.inr ⟨i, val, e', ha⟩)
  have sto : ∀ a, a ∈ ρ → ¬ Adr os xs a := by
    intro a ha z
    rcases adr a z with ⟨j, vj, h1, h2, _⟩ | ⟨l, _⟩
    · obtain ⟨b, d, _, h3, _, _, h5⟩ := r.ow j vj h1
      rw [h3] at h2; cases h2
      exact h5 ha
    · exact l (.inl ha)
  have hlen : (frzA os st).env.length = σ.length := by rw [frzA_eq]; show (frzEnv os st.env).length = _; rw [frzEnv_len]; exact r.len
  have hsto : (frzA os st).sto = st.sto := by rw [frzA_eq]
  have rel' : Rel K ρ (frzA os st) W' σ H := by
    refine ⟨⟨by rw [hsto]; exact r.s.len, r.s.nd, fun j o a h1 h2 => ?_, fun a w => r.s.wn a w.1⟩, hlen, fun i val e => ?_, fun i val e => ?_, fun i j vi vj a h1 h2 h3 h4 => ?_⟩
    · rw [hsto] at h1
      obtain ⟨w, q⟩ := r.s.at_ j o a h1 h2
      exact ⟨⟨w, sto a (List.mem_of_getElem? h2)⟩, q⟩
    · have e0 := e
      rw [frzA_eq] at e
      have e : (frzEnv os st.env)[i]? = some (some ⟨false, val⟩) := e
      have hl : i < st.env.length := by
        have := (List.getElem?_eq_some_iff.mp e).1
        rw [frzEnv_len] at this
        exact this
      rcases frzEnv_at os st.env i with ⟨h1, h2⟩ | ⟨o, h1, h2, h3⟩
      · rw [h1] at e
        obtain ⟨v, q1, q2⟩ := r.fz i val e
        exact ⟨v, q1, q2.pres pr (List.prefix_refl _)⟩
      · rw [h3 hl] at e
        cases e
        obtain ⟨k, hk⟩ := List.mem_iff_getElem?.mp h1
        obtain ⟨x, hx, rv⟩ := vals k o hk
        obtain ⟨x', hx', rt⟩ := h.get hk
        rw [hx] at hx'; cases hx'
        unfold RT at rt
        rw [h2] at rt
        exact ⟨x, rt.2, rv⟩
    · obtain ⟨e', hn⟩ := owned i val e
      obtain ⟨a, d, q1, q2, q3, q4, q5⟩ := r.ow i val e'
      exact ⟨a, d, q1, q2, ⟨q3, keepsW i val a e q2⟩, q4.pres pr rfl, q5⟩
    · exact r.ap i j vi vj a (owned i vi h1).1 (owned j vj h2).1 h3 h4
  refine ⟨W', ⟨rel', ⟨s.fr.keep.trans pr, fun a w l => ?_, s.fr.there⟩, s.pre, fun a l => ?_⟩, pr, fun a => Iff.rfl, vals⟩
  · obtain ⟨w1, e1⟩ := s.fr.hold a w l
    refine ⟨⟨w1, fun z => ?_⟩, e1⟩
    rcases adr a z with ⟨j, vj, h1, h2, _⟩ | ⟨_, n⟩
    · rcases s.sub a (.inr ⟨j, vj, h1, h2⟩) with q | q
      · exact l q
      · exact r0.s.wn a w q
    · exact r0.s.wn a w n
  · rcases l with l | ⟨i, val, l1, l2⟩
    · exact s.sub a (.inl l)
    · exact s.sub a (.inr ⟨i, val, (owned i val l1).1, l2⟩)
end
end Ev
end

section
set_option Elab.async false
set_option linter.all false
set_option maxRecDepth 100000
/-! Ev4: defs whose guards are known; their calls; the law's own call. -/
namespace Ev
open PySem PySem.Spec PyProof.Rows L2

/-- a def's promise without exceptions: arguments, heap, what is wanted -/
abbrev Sp0 := List V → Hp → VK → Prop
/-- the def at f keeps the promise where nothing is guarded -/
structure FnG (P : Program) (w : World) (K : PySem.W.Frag) (mg : Str → Option Value) (base : Heap) (k : Nat) (f : Addr) (fd : FuncData) (ps : List Str) (sp : Sp0) : Prop where
  len : ∀ vs H Q, sp vs H Q → vs.length = ps.length
  run : ∀ (A : Around) (outer : List Env) (s : Shared) (H : Hp) (args : Args) (us : List Value) (vs : List V) (Q : VK), Room k A → A.guards = some [] → Env0 P w K mg base A outer s H →
    BindsTo s fd args (ps.zip us) → Vals vs us → sp vs H Q → codeAny (model P w) A (.call (.ref f) args) (CR CX0 outer P w H s Q E0) s

section
variable {P : Program} {w : World} {K : PySem.W.Frag} {mg : Str → Option Value} {base : Heap}

theorem guards_deeper {A : Around} (env : Env) : (A.deeper env).guards = A.guards := by first | rfl | simp [Around.deeper]

/-- by its body -/
theorem FnG.of {x qual : Str} {params : Arguments} {body : List Stmt} {scope : Scope} {dvs : List V} {kws : List (Str × V)} {f : Addr} {fd : FuncData} {N ps : List Str} {k : Nat} {sp : Sp0}
    (F : FunD K x qual params body scope dvs kws f fd) (S : FnScope N ps scope) (len : ∀ vs H Q, sp vs H Q → vs.length = ps.length)
    (hbody : ∀ (cdv : Value) (A : Around) (outer : List Env) (s : Shared) (H : Hp) (vs : List V) (Q : VK), Room k (A.deeper (envOfC qual scope s.heap.objs.size f cdv)) → A.guards = some [] → sp vs H Q →
      ∃ t, PSs (cxOf CX0 P w K mg base N qual scope f cdv A outer s H E0).nox body t ∧ t { nx := fun _ H' => Q .non H', rt := Q } (start N vs) H) :
    FnG P w K mg base (k + 1) f fd ps sp := by
  obtain ⟨oc, od, dV, kV, doc, pm, an, cdv, ct, osl, rfl, lk, hcd, _, _⟩ := F.ex
  refine ⟨len, fun A outer s H args us vs Q hr hg e0 hb r hsp => ?_⟩
  have n0 := len _ _ _ hsp
  have KX : K.In s.heap := e0.mod.kin.keeps fun b o e => (e0.bs b o e).1
  have lim : s.heap.NoLimit := e0.mod.nolimit.keeps fun b o e => (e0.bs b o e).1
  refine codeAny_call_function hr.depth (KX _ _ lk) rfl S.co S.gen rfl (PySem.W.codeRec_of KX hcd) (hb _ _ _ _ ?_)
  refine wpAny_newFunctionEnv_cells S.kind (fun y hy => (S.par y.1 (List.of_mem_zip (show (y.1, y.2) ∈ ps.zip us from hy)).1).elim .inl fun q => .inr ⟨q, PySem.W.cellsFrom_some _ _ _ (.inl q)⟩) fun env he s1 x => ?_
  subst he
  refine ⟨lim.keeps x.toInCall.keep, codeAny_func ?_⟩
  obtain ⟨t, h1, h2⟩ := hbody cdv A outer s H vs Q (hr.deeper _) hg hsp
  have I := inv_start (CX := CX0) (E := E0) S hr.hd e0 n0 r x
  refine wpAny_mono (h1.run [] s1 (start N vs) H _ (I.wish _) h2) (fun fl s' q => ?_) fun _ _ z => False.elim z
  cases fl with
  | ret u => obtain ⟨v, σ', H', J, rv, q⟩ := q; exact ⟨v, H', J.os, J.bare, J.base, J.hok, rv, q⟩
  | next => obtain ⟨σ', H', J, q⟩ := q; exact ⟨.non, H', J.os, J.bare, J.base, J.hok, rfl, q⟩
  | brk => obtain ⟨_, _, _, q⟩ := q; exact q.elim
  | cont => obtain ⟨_, _, _, q⟩ := q; exact q.elim
end

/-! ### a call of such a def -/
section
variable {X : Cx} {k : Nat} {f : Addr} {fd : FuncData} {ps : List Str} {sp : Sp0} {x : Str} {p pos : Pos} {e : Expr} {es : List Expr} {t : TA}
theorem FnG.go {pins : List (Addr × Obj)} {σ : L2.St} {H : Hp} {s : Shared} {Q : VK} {us : List Value} {vs : List V} (F : FnG X.prog X.w X.K X.mg X.base k f fd ps sp) (hr : Room k X.A) (hg : X.A.guards = some []) (hb : Binds X.K fd ps [])
    (I : Inv X pins σ H s) (r : Vals vs us) (h : sp vs H Q) : wpAny (model X.prog X.w) X.A (call (.ref f) us) (EP X pins σ Q) X.xe s := by
  have n0 := F.len _ _ _ h
  have b := hb s us I.kIn (by rw [List.append_nil, ← r.length]; exact n0)
  rw [List.append_nil] at b
  refine wpAny_call (codeAny_mono (F.run X.A X.stack s H ⟨us, []⟩ us vs Q hr hg I.env0 b r h) fun res s' q => ?_)
  cases res with
  | error _ => exact False.elim q
  | ok fl => cases fl with
    | ret u => exact I.after q
    | next => exact False.elim q
    | brk => exact False.elim q
    | cont => exact False.elim q
def tCallG (sp : Sp0) (t : TA) : TE := fun σ H Q => t σ H fun vs H1 => sp vs H1 Q
/-- no star stands in a list of expressions -/
def starless : List Expr → Bool
  | [] => true
  | .Starred _ _ :: _ => false
  | _ :: r => starless r
theorem starless_cons {e : Expr} {es : List Expr} (h : starless (e :: es) = true) (env : Env) : starEach (e :: es) env = (false, eval e env) :: starEach es env ∧ starless es = true := by
  cases e <;> first
    | exact ⟨rfl, h⟩
    | exact absurd h (by simp [starless])
theorem starless_back : ∀ {es : List Expr} (h : starless es = true) (env : Env) (pos : Pos), (backTo pos (starEach es env)).any (·.1) = false
  | [], _, _, _ => rfl
  | e :: es, h, env, pos => by
    obtain ⟨h1, h2⟩ := starless_cons h env
    rw [h1]
    show (false || (backTo pos (starEach es env)).any (·.1)) = false
    rw [starless_back h2 env pos]
    rfl
theorem pe_callG (F : FnG X.prog X.w X.K X.mg X.base k f fd ps sp) (hr : Room k X.A) (hg : X.A.guards = some []) (hgl : Gl X x) (hm : X.mg x = some (.ref f)) (hk : PySem.W.keepIn X.K (.ref f) = true) (hb : Binds X.K fd ps [])
    (hdb : (x == ("__debug__" : Str)) = false) (ha : PA X (e :: es) t) (he : starless (e :: es) = true) : PE X (.Call (.Name x p) (e :: es) [] pos) (tCallG sp t) := by
  refine ⟨fun pins s σ H Q I h => wpAny_Call_Name_kw (ld_glob I hgl hm ?_ hdb)⟩
  obtain ⟨h1, h2⟩ := starless_cons he X.env
  exact PySem.W.callWith_K (h₀ := X.base) I.ok.mod.kin hk (thn (ha.run pos pins s σ H _ I h) fun us s1 ⟨vs, H1, I1, rv, q⟩ => ⟨I1.kIn, F.go hr hg hb I1 rv q⟩) h1 (starless_back h2 _ _)
end

/-! ### the law's call from outside -/
/-- from a heap where at most the script is tracked -/
theorem call_at {P : Program} {w : World} {K : PySem.W.Frag} {mg mb : Str → Option Value} {k : Nat} {fa a : Addr} {fd : FuncData} {x : Str} {sp : Sp0} {s1 : Shared} {vs : List Value} {ns : List Int} {H : Hp}
    (KX : K.In s1.heap) (hns : s1.heap.Ns mainGlobals mg) (hb : s1.heap.Ns builtinsNs mb) (hbb : ∀ x : Str, x ≠ "__name__" → mb x = bootBuiltins x) (hlim : s1.heap.NoLimit) (hg : s1.gens = #[])
    (hr : Room k callerA) (F : ∀ base : Heap, K.In base → base.Ns mainGlobals mg → FnG P w K mg base k fa fd [x] sp) (hbind : ∀ (s : Shared) (u : Value), BindsTo s fd ⟨[u], []⟩ [(x, u)])
    (hsp : sp [.ref a] H (fun v _ => v = .bl true)) (ok : HOk P w H s1.heap) (only : ∀ b u, H b = some u → b = a ∧ K.lookup b = none ∧ ∃ o xs, u = .frz o (.lst xs) ∧ ∀ es ep, o.data ≠ .dict es ep) :
    codeAny (model P w) callerA (.call (.ref fa) ⟨[.ref a], []⟩) (fun r s' => r = .ok (.ret (.bool true)) ∧ OldK s1.heap s'.heap ∧ s'.os = s1.os ∧ AllBare s'.gens) s1 := by
  have hid : ∀ {b : Addr} {o : Obj}, s1.heap.get? b = some o → H b = none → (hidT s1.heap H).get? b = some o := fun e n => hidT_get e n
  have dictFree : ∀ {b : Addr} {o : Obj} {es : Array DictEntry} {ep : Nat}, s1.heap.get? b = some o → o.data = .dict es ep → H b = none := by
    intro b o es ep e d
    cases q : H b with
    | none => rfl
    | some u =>
      obtain ⟨rfl, _, ob, xs, rfl, nd⟩ := only b u q
      have e2 : s1.heap.get? b = some ob := (ok b _ q).1
      rw [e] at e2
      cases e2
      exact absurd d (nd es ep)
  have nsH : ∀ {b : Addr} {m : Str → Option Value}, s1.heap.Ns b m → (hidT s1.heap H).Ns b m := fun {b m} ⟨o, es, ep, e, d, r⟩ => ⟨o, es, ep, hid e (dictFree e d), d, r⟩
  have KH : K.In (hidT s1.heap H) := fun b o e => hid (KX b o e) (by
    cases q : H b with
    | none => rfl
    | some u => rw [(only b u q).2.1] at e; cases e)
  obtain ⟨mc, l1, l2⟩ := hlim
  have md : Mod K mg (hidT s1.heap H) := ⟨KH, nsH hns, ⟨mb, nsH hb, hbb⟩, ⟨mc, nsH l1, l2⟩⟩
  have env0 : Env0 P w K mg (hidT s1.heap H) callerA [] s1 H := ⟨rfl, md, fun b o e => of_hidT e, Nat.le_of_eq (hidT_size _ _), trivial, fun b z => absurd (show b ∈ ([] : List Addr) from z) (by simp), ok, .of_eq hg⟩
  refine codeAny_mono ((F _ KH (nsH hns)).run callerA [] s1 H ⟨[.ref a], []⟩ [.ref a] [.ref a] _ hr rfl env0 (hbind s1 (.ref a)) (.cons rfl .nil) hsp) fun r s' h => ?_
  cases r with
  | error _ => exact False.elim h
  | ok fl => cases fl with
    | next => exact False.elim h
    | brk => exact False.elim h
    | cont => exact False.elim h
    | ret u =>
      obtain ⟨v, H', os, bare, un, hok, rv, q⟩ := h
      have q : v = .bl true := q
      subst q
      have rv : u = Value.bool true := rv
      subst rv
      refine ⟨rfl, OldK.of_keep fun b o e => ?_, os, bare⟩
      cases z : H b with
      | none => exact un.keep b o e z (fun y => absurd (show b ∈ ([] : List Addr) from y) (by simp)) (by simp)
      | some uo =>
        obtain ⟨rfl, _, ob, xs, rfl, _⟩ := only b uo z
        have e1 : s1.heap.get? b = some ob := (ok b _ z).1
        have e2 : s'.heap.get? b = some ob := (hok b _ (un.frzs b ob _ z)).1
        rw [e] at e1; cases e1
        exact e2
theorem call_law {P : Program} {w : World} {K : PySem.W.Frag} {mg mb : Str → Option Value} {k : Nat} {fa a : Addr} {fd : FuncData} {x : Str} {sp : Sp0} {s1 : Shared} {vs : List Value} {ns : List Int}
    (KX : K.In s1.heap) (hns : s1.heap.Ns mainGlobals mg) (hb : s1.heap.Ns builtinsNs mb) (hbb : ∀ x : Str, x ≠ "__name__" → mb x = bootBuiltins x) (hlim : s1.heap.NoLimit) (hg : s1.gens = #[])
    (ha : s1.heap.get? a = some { cls := .type "list", data := .seq vs.toArray }) (hi : IntsAre vs ns) (hl : ns.length ≤ sizeLine)
    (hr : Room k callerA) (F : ∀ base : Heap, K.In base → base.Ns mainGlobals mg → FnG P w K mg base k fa fd [x] sp) (hbind : ∀ (s : Shared) (u : Value), BindsTo s fd ⟨[u], []⟩ [(x, u)])
    (hsp : ∀ H : Hp, ((∃ o, H = fun b => if b = a then some (.frz o (.lst (ns.map V.int))) else none) ∨ (H = fun _ => none) ∧ SqL K (fun _ => none) a (ns.map V.int)) → sp [.ref a] H (fun v _ => v = .bl true)) :
    codeAny (model P w) callerA (.call (.ref fa) ⟨[.ref a], []⟩) (fun r s' => r = .ok (.ret (.bool true)) ∧ OldK s1.heap s'.heap ∧ s'.os = s1.os ∧ AllBare s'.gens) s1 := by
  have rv := vals_ints hi
  have n0 := hi.length
  cases hk : K.lookup a with
  | some o =>
    have e := KX a o hk
    rw [ha] at e
    cases e
    exact call_at (vs := vs) (ns := ns) (H := fun _ => none) KX hns hb hbb hlim hg hr F hbind (hsp _ (.inr ⟨rfl, .inr ⟨_, vs.toArray, _, hk, rfl, rfl, rfl, by rw [List.size_toArray, n0]; exact hl, by simpa using rv⟩⟩)) (fun b u z => nomatch z) fun b u z => nomatch z
  | none =>
    refine call_at (vs := vs) (ns := ns) (H := fun b => if b = a then some (.frz { cls := .type "list", data := .seq vs.toArray } (.lst (ns.map V.int))) else none) KX hns hb hbb hlim hg hr F hbind (hsp _ (.inl ⟨_, rfl⟩)) (fun b u z => ?_) fun b u z => ?_
    · by_cases e : b = a
      · subst e
        have z := (if_pos rfl).symm.trans z
        cases z
        exact ⟨ha, by rw [List.length_map]; exact hl, vs, _, rv, ha⟩
      · exact nomatch (if_neg e).symm.trans z
    · by_cases e : b = a
      · subst e
        have z := (if_pos rfl).symm.trans z
        cases z
        exact ⟨rfl, hk, _, _, rfl, fun es ep d => nomatch d⟩
      · exact nomatch (if_neg e).symm.trans z

/-- the goal of the head, by the law's promise -/
theorem walk_law {l : PySem.W.OpenLaw} {n k : Nat} {q : Program} {loose : List Str} {XP : (Str → Option Value) → Heap → Prop} {YP : World → Heap → Prop} {d : DefRec} {x : Str}
    (hn : l.most = some n) (hn2 : n ≤ sizeLine) (hdf : d.params.defaults = []) (hr : Room k callerA)
    (F : ∀ (w : World) (mg : Str → Option Value) (fa : Addr) (h : Heap), YP w h → h.Ns mainGlobals mg → mg d.name = some (.ref fa) →
      ∃ (K : PySem.W.Frag) (fd : FuncData) (sp : Sp0), K.In h ∧ (∀ (s : Shared) (u : Value), BindsTo s fd ⟨[u], []⟩ [(x, u)]) ∧
        (∀ (H : Hp) (a : Addr) (ns : List Int), ns.length ≤ n → ((∃ o, H = fun b => if b = a then some (.frz o (.lst (ns.map V.int))) else none) ∨ (H = fun _ => none) ∧ SqL K (fun _ => none) a (ns.map V.int)) → sp [.ref a] H (fun v _ => v = .bl true)) ∧
        ∀ base : Heap, K.In base → base.Ns mainGlobals mg → FnG l.prog w K mg base k fa fd [x] sp) :
    PySem.W.WalkO q loose XP YP l.row.toRowW d [] (fun f vs => PySem.call f vs) := by
  refine Att.attach_call hn hdf fun w s0 s1 mg mb fa o pm cd doc a vs ns G Y ho hd hcd hmg hobj hints hlen hg => ?_
  obtain ⟨K, fd, sp, KX, hb, hsp, hF⟩ := F w mg fa _ Y G.T.g hmg
  exact call_law KX G.T.g G.T.b G.T.builtins G.T.nolimit hg hobj hints (Nat.le_trans hlen hn2) hr hF hb fun H z => hsp H a ns hlen z
end Ev
end

section
set_option Elab.async false
set_option linter.all false
set_option maxRecDepth 100000
set_option maxHeartbeats 4000000
/-! Ev4t: a tuple taken once. -/
namespace Ev
open PySem PySem.Spec PyProof.Rows L2
theorem tuple_mul1 (l : Addr) (items : Array Value) (n : Nat) (dd : Option Addr) (sl : Array (Option Value)) (u : Tok) :
    Meets (Builtin.«tuple.__mul__» ⟨[.ref l, .int 1 u], []⟩) (fun _ R s => s.heap.get? l = some { cls := .type "tuple", dict := dd, data := .seq items n, slots := sl } ∧
      R (.ok (.ret (Value.ref l))) s) :=
  .of_wp fun prog w A R s h => by
    obtain ⟨hp, g, d, tk, os⟩ := s
    obtain ⟨hl, h⟩ := h
    have f1 := AutoSeq1.idx_int
    have c1 : (items.isEmpty || (1 : Int) == 1) = true := by simp
    wp_walk using wpAny_loadPart' hl
    exact ⟨_, rfl, h⟩
/-- t * 1: the tuple itself -/
theorem op_repT1 {X : Cx} : OpR X (binaryOp .Mult) (fun x y H Q => ∃ l xs, x = .ref l ∧ y = .int 1 ∧ SqT X.K H l xs ∧ Q (.ref l) H) := by
  intro pins s σ H x y v u Q I rx ry h
  obtain ⟨l, xs, rfl, rfl, hT, q⟩ := h
  cases rx
  obtain ⟨t, rfl⟩ := ry
  obtain ⟨its, r, ⟨⟨cls, dd, data, sl⟩, ho, hc, n, hd⟩, hs⟩ := I.tuple hT
  simp only at hc hd
  subst hc hd
  refine wpAny_binaryOp_repeat_ref (T := "tuple") (U := "int") (by decide) ⟨_, ho, rfl⟩ (fun s' => typeIs_int s' 1 t) noFill_tuple_mul F.fills_int_mul F.slot_int_rmul repeat_tuple F.slot_int_index.lookup
    (call_meets F.slot_int_rmul (typeIs_int s 1 t) F.entry_int_rmul (F.args_int_rmul_2 _ _) (int_rmul_tuple 1 t l its.toArray n dd sl)
      ⟨ho, rfl, ⟨_, ho, rfl⟩, call_meets F.slot_tuple_mul ⟨_, ho, rfl⟩ F.entry_tuple_mul (F.args_tuple_mul_2 _ _) (tuple_mul1 l its.toArray n dd sl t) ⟨ho, ?_⟩⟩)
  exact ⟨.ref l, H, I, rfl, q⟩
theorem tuple_mul0 (l : Addr) (items : Array Value) (n : Nat) (dd : Option Addr) (sl : Array (Option Value)) (u : Tok) (hi : items.isEmpty = false) :
    Meets (Builtin.«tuple.__mul__» ⟨[.ref l, .int 0 u], []⟩) (fun _ R s => s.heap.get? l = some { cls := .type "tuple", dict := dd, data := .seq items n, slots := sl } ∧
      R (.ok (.ret (Value.ref s.heap.objs.size))) { s with heap := s.heap.push { cls := Value.type "tuple", data := Data.seq #[] } }) :=
  .of_wp fun prog w A R s h => by
    obtain ⟨hp, g, d, tk, os⟩ := s
    obtain ⟨hl, h⟩ := h
    have f1 := AutoSeq1.idx_int
    have c1 : (items.isEmpty || (0 : Int) == 1) = false := by rw [hi]; rfl
    wp_walk using wpAny_loadPart' hl
    repeat (first
      | (refine wpAny_ite_false (decide_eq_false (by rw [c1]; exact Bool.false_ne_true)) ?_; wp_walk using wpAny_loadPart' hl))
    exact ⟨_, rfl, h⟩
/-- t * 0: a new empty tuple -/
theorem op_repT0 {X : Cx} : OpR X (binaryOp .Mult) (fun x y H Q => ∃ l xs, x = .ref l ∧ y = .int 0 ∧ SqT X.K H l xs ∧ xs ≠ [] ∧ ∀ p, H p = none → Q (.ref p) (upd H p (.tup []))) := by
  intro pins s σ H x y v u Q I rx ry h
  obtain ⟨l, xs, rfl, rfl, hT, hne, q⟩ := h
  cases rx
  obtain ⟨t, rfl⟩ := ry
  obtain ⟨its, r, ⟨⟨cls, dd, data, sl⟩, ho, hc, n, hd⟩, hs⟩ := I.tuple hT
  simp only at hc hd
  subst hc hd
  have hie : its.toArray.isEmpty = false := by
    cases its with
    | nil =>
      have := r.length
      exact absurd (List.length_eq_zero_iff.mp this) hne
    | cons a b => rfl
  refine wpAny_binaryOp_repeat_ref (T := "tuple") (U := "int") (by decide) ⟨_, ho, rfl⟩ (fun s' => typeIs_int s' 0 t) noFill_tuple_mul F.fills_int_mul F.slot_int_rmul repeat_tuple F.slot_int_index.lookup
    (call_meets F.slot_int_rmul (typeIs_int s 0 t) F.entry_int_rmul (F.args_int_rmul_2 _ _) (int_rmul_tuple 0 t l its.toArray n dd sl)
      ⟨ho, rfl, ⟨_, ho, rfl⟩, call_meets F.slot_tuple_mul ⟨_, ho, rfl⟩ F.entry_tuple_mul (F.args_tuple_mul_2 _ _) (tuple_mul0 l its.toArray n dd sl t hie) ⟨ho, ?_⟩⟩)
  refine ⟨.ref s.heap.objs.size, _, I.laid (t' := s.toks) (o := .tup []) (fun b ob g => Heap.get?_push_of_some _ g) (Nat.le_refl _) ?_, rfl, q _ (I.hok.fresh (Nat.le_refl _))⟩
  exact ⟨Nat.zero_le _, [], .nil, IsTup.new _ _⟩
end Ev
end

section
set_option Elab.async false
set_option linter.all false
set_option maxRecDepth 100000
/-! Ev5: operations on data are what the machine does. -/
namespace Ev
open PySem PySem.Spec PyProof.Rows L2

theorem sl_eq : sizeLine = SL := by rw [sizeLine_eq]; rfl

section
variable {X : Cx} {pins : List (Addr × Obj)} {σ : L2.St} {W : Addr → Prop} {H H' : Hp} {s : Shared}

/-! ### data that is read by the library's words -/
mutual
theorem R.reads (I : Inv X pins σ H s) : ∀ (d : D) (v : V) (u : Value), d.hasDict = false → R W H v d → RelV v u → ∃ as, Reads s.heap u d as
  | .none, _, _, _, h, r => by cases h; cases r; exact ⟨_, Reads.none⟩
  | .bool b, _, _, _, h, r => by cases h; cases r; exact ⟨_, Reads.bool b⟩
  | .int i, _, _, _, h, r => by cases h; obtain ⟨t, rfl⟩ := r; exact ⟨_, Reads.int i t⟩
  | .str x, _, _, _, h, r => by cases h; obtain ⟨t, rfl⟩ := r; exact ⟨_, Reads.str x t⟩
  | .dict es, _, _, nd, _, _ => by simp [PyData.hasDict] at nd
  | .list ds, _, _, nd, h, r => by
    cases h with
    | lst w e ra =>
      cases r
      obtain ⟨its, rv, ⟨o, n, e1, e2, _, e4⟩, _⟩ := I.list (SqL.of e)
      obtain ⟨as, q⟩ := RA.reads I ds _ its (by simpa [PyData.hasDict] using nd) ra rv
      exact ⟨_, Reads.list e1 e2 e4 (by simpa using q)⟩
  | .tuple ds, _, _, nd, h, r => by
    cases h with
    | tup w e ra =>
      cases r
      obtain ⟨its, rv, ⟨o, e1, e2, n, e4⟩, _⟩ := I.tuple (SqT.of e)
      obtain ⟨as, q⟩ := RA.reads I ds _ its (by simpa [PyData.hasDict] using nd) ra rv
      exact ⟨_, Reads.tuple e1 e2 e4 (by simpa using q)⟩
theorem RA.reads (I : Inv X pins σ H s) : ∀ (ds : List D) (vs : List V) (us : List Value), PyData.hasDictAll ds = false → RA W H vs ds → Vals vs us → ∃ as, ReadsAll s.heap us ds as
  | [], _, _, _, h, r => by cases h; cases r; exact ⟨_, ReadsAll.nil⟩
  | d :: ds, _, _, nd, h, r => by
    cases h with
    | cons a b =>
      cases r with
      | cons p q =>
        have nd : d.hasDict = false ∧ PyData.hasDictAll ds = false := by simpa [PyData.hasDictAll] using nd
        obtain ⟨as, h1⟩ := R.reads I d _ _ nd.1 a p
        obtain ⟨bs, h2⟩ := RA.reads I ds _ _ nd.2 b q
        exact ⟨_, ReadsAll.cons h1 h2⟩
end
theorem RR.reads {d : D} {v : V} {u : Value} (I : Inv X pins σ H s) (nd : d.hasDict = false) (h : RR W H v d) (r : RelV v u) : ∃ as, Reads s.heap u d as := by
  cases d with
  | list ds =>
    obtain ⟨a, xs, rfl, e, ra⟩ := h
    cases r
    obtain ⟨its, rv, ⟨o, n, e1, e2, _, e4⟩, _⟩ := I.list (SqL.of e)
    obtain ⟨as, q⟩ := RA.reads I ds _ its (by simpa [PyData.hasDict] using nd) ra rv
    exact ⟨_, Reads.list e1 e2 e4 (by simpa using q)⟩
  | dict es => simp [PyData.hasDict] at nd
  | _ => exact R.reads I _ _ _ nd h r

/-! ### new objects -/
theorem RA.newL {xs : List V} {ds : List D} {p : Addr} (h : RA W H xs ds) (hp : H p = none) : Res W H (upd H p (.lst xs)) (.ref p) (.list ds) := by
  refine ⟨Ext.upd hp, ?_⟩
  show ∃ a, _
  exact ⟨p, rfl, hp, xs, upd_same, h.pres fun a o w e => ⟨fun z => z.elim w (fun q => by subst q; rw [hp] at e; cases e), Ext.upd hp a o e⟩⟩
theorem RA.newT {xs : List V} {ds : List D} {p : Addr} (h : RA W H xs ds) (hp : H p = none) (hw : ∀ a, W a → H a ≠ none) : Res W H (upd H p (.tup xs)) (.ref p) (.tuple ds) :=
  ⟨Ext.upd hp, R.tup (fun z => hw p z hp) upd_same (h.pres fun a o w e => ⟨w, Ext.upd hp a o e⟩)⟩
theorem Res.same {z : V} {d : D} (h : R W H z d) (hf : isFresh d = false) : Res W H H z d := by
  refine ⟨Ext.refl, ?_⟩
  rw [if_neg (by rw [hf]; simp)]
  exact h
theorem RA.nilV {xs : List V} {ds : List D} (h : RA W H xs ds) : xs = [] ↔ ds = [] := by cases h <;> simp

/-! ### operators -/
def rD (f : D → D → Option D) : R2 := fun x y H Q => ∃ W d1 d2 r, (∀ a, W a → H a ≠ none) ∧ RR W H x d1 ∧ RR W H y d2 ∧ f d1 d2 = some r ∧ ∀ z H', Res W H H' z r → Q z H'
def rC (f : D → D → Option Bool) : R2 := fun x y H Q => ∃ W d1 d2 r, (∀ a, W a → H a ≠ none) ∧ RR W H x d1 ∧ RR W H y d2 ∧ f d1 d2 = some r ∧ Q (.bl r) H
theorem _root_.L2.OpR.weak {f : Value → Value → Sem Value} {r r' : R2} (h : OpR X f r) (w : ∀ x y H Q, r' x y H Q → r x y H Q) : OpR X f r' := fun pins s σ H x y v u Q I rx ry q => h pins s σ H x y v u Q I rx ry (w _ _ _ _ q)
theorem RR.int {x : V} {i : Int} (h : RR W H x (.int i)) : x = .int i := by cases (show R W H x (.int i) from h); rfl
theorem RR.str {x : V} {i : Str} (h : RR W H x (.str i)) : x = .str i := by cases (show R W H x (.str i) from h); rfl
theorem RR.bl {x : V} {i : Bool} (h : RR W H x (.bool i)) : x = .bl i := by cases (show R W H x (.bool i) from h); rfl
theorem RR.tup {x : V} {ds : List D} (h : RR W H x (.tuple ds)) : ∃ a xs, x = .ref a ∧ ¬ W a ∧ H a = some (.tup xs) ∧ RA W H xs ds := by
  cases (show R W H x (.tuple ds) from h) with
  | tup w e r => exact ⟨_, _, rfl, w, e, r⟩
theorem RR.tupR {x : V} {ds : List D} (h : RR W H x (.tuple ds)) : R W H x (.tuple ds) := h
theorem resI {i : Int} : Res W H H (.int i) (.int i) := Res.same (.int i) rfl

theorem or_bin (op : Operator) : OpR X (binaryOp op) (rD (binD op)) := by
  intro pins s σ H x y v u Q I rx ry h
  obtain ⟨W, d1, d2, r, hw, h1, h2, e, k⟩ := h
  unfold binD at e
  split at e
  · cases e
    obtain rfl := h1.int; obtain rfl := h2.int
    exact op_add pins s σ H _ _ v u Q I rx ry ⟨_, _, rfl, rfl, k _ _ resI⟩
  · rename_i a b
    split at e
    · rename_i hl
      cases e
      obtain ⟨p, xs, rfl, e1, r1⟩ := h1
      obtain ⟨q, ys, rfl, e2, r2⟩ := h2
      exact op_cat pins s σ H _ _ v u Q I rx ry ⟨p, q, xs, ys, rfl, rfl, e1, e2, by rw [r1.length, r2.length, sl_eq]; exact hl, fun l hl => k _ _ ((r1.app r2).newL hl)⟩
    · cases e
  · rename_i a b
    split at e
    · rename_i hl
      cases e
      obtain ⟨p, xs, rfl, w1, e1, r1⟩ := h1.tup
      obtain ⟨q, ys, rfl, w2, e2, r2⟩ := h2.tup
      refine op_catA pins s σ H _ _ v u Q I rx ry ⟨p, q, xs, ys, rfl, rfl, SqT.of e1, SqT.of e2, by rw [r1.length, r2.length, sl_eq]; exact hl, fun z => k _ _ (Res.same ?_ rfl), fun _ z => k _ _ (Res.same ?_ rfl), fun _ _ l hl => k _ _ ((r1.app r2).newT hl hw)⟩
      · have z' := r1.nilV.mp z
        subst z'
        exact .tup w2 e2 r2
      · have z' := r2.nilV.mp z
        subst z'
        rw [List.append_nil]
        exact .tup w1 e1 r1
    · cases e
  · cases e
    obtain rfl := h1.int; obtain rfl := h2.int
    exact op_sub pins s σ H _ _ v u Q I rx ry ⟨_, _, rfl, rfl, k _ _ resI⟩
  · split at e
    · rename_i hc
      cases e
      obtain rfl := h1.int; obtain rfl := h2.int
      exact op_mul pins s σ H _ _ v u Q I rx ry ⟨_, _, rfl, rfl, hc, k _ _ resI⟩
    · cases e
  · rename_i a n
    split at e
    · rename_i hl
      cases e
      obtain ⟨p, xs, rfl, e1, r1⟩ := h1
      obtain rfl := h2.int
      exact op_rep pins s σ H _ _ v u Q I rx ry ⟨p, n, xs, rfl, rfl, e1, hl.1, hl.2.1, by rw [r1.length, sl_eq]; exact hl.2.2, fun l hl' => k _ _ ((r1.rep n.toNat).newL hl')⟩
    · cases e
  · rename_i a n
    split at e
    · rename_i hl
      cases e
      obtain ⟨p, xs, rfl, w1, e1, r1⟩ := h1.tup
      obtain rfl := h2.int
      by_cases h1 : n = 1
      · subst h1
        refine op_repT1 pins s σ H _ _ v u Q I rx ry ⟨p, xs, rfl, rfl, SqT.of e1, k _ _ (Res.same ?_ rfl)⟩
        have e : (List.replicate (1 : Int).toNat a).flatten = a := by simp
        rw [e]
        exact .tup w1 e1 r1
      by_cases h0 : n = 0
      · subst h0
        refine op_repT0 pins s σ H _ _ v u Q I rx ry ⟨p, xs, rfl, rfl, SqT.of e1, (fun z => hl.1 (by rw [z] at r1; cases r1; rfl)), fun l hl' => k _ _ ?_⟩
        have e : (List.replicate (0 : Int).toNat a).flatten = [] := by simp
        rw [e]
        exact RA.newT .nil hl' hw
      exact op_repT pins s σ H _ _ v u Q I rx ry ⟨p, n, xs, rfl, rfl, SqT.of e1, fun z => hl.1 (by rw [z] at r1; cases r1; rfl), by omega, hl.2.2.1, by rw [r1.length]; exact hl.2.2.2, fun l hl' => k _ _ ((r1.rep n.toNat).newT hl' hw)⟩
    · cases e
  · split at e
    · rename_i hc
      cases e
      obtain rfl := h1.int; obtain rfl := h2.int
      exact op_pow pins s σ H _ _ v u Q I rx ry ⟨_, _, rfl, rfl, hc, k _ _ resI⟩
    · cases e
  · split at e
    · rename_i hc
      cases e
      obtain rfl := h1.int; obtain rfl := h2.int
      exact op_fdiv pins s σ H _ _ v u Q I rx ry ⟨_, _, rfl, rfl, hc, k _ _ resI⟩
    · cases e
  · split at e
    · rename_i hc
      cases e
      obtain rfl := h1.int; obtain rfl := h2.int
      exact op_mod pins s σ H _ _ v u Q I rx ry ⟨_, _, rfl, rfl, hc, k _ _ resI⟩
    · cases e
  · split at e
    · rename_i hc
      cases e
      obtain rfl := h1.int; obtain rfl := h2.int
      obtain ⟨rfl, c1, c2⟩ := hc
      rename_i b
      obtain ⟨n, rfl⟩ : ∃ n : Nat, b = (n : Int) := ⟨b.toNat, by omega⟩
      exact op_oneShl pins s σ H _ _ v u Q I rx ry ⟨n, rfl, rfl, by omega, k _ _ resI⟩
    · cases e
  · cases e
    obtain rfl := h1.int; obtain rfl := h2.int
    exact op_xor pins s σ H _ _ v u Q I rx ry ⟨_, _, rfl, rfl, k _ _ resI⟩
  · cases e

/-! ### comparisons -/
theorem lay_noDict {d : D} (h : SeqAt.shaped d = true) : d.hasDict = false := PyData.hasDict_of_canLay d (SeqAt.canLay_of_shaped h)
theorem eqD_or {a b : D} {r : Bool} (e : eqD a b = some r) : (∃ i j, a = .str i ∧ b = .str j ∧ r = decide (i = j)) ∨ (SeqAt.shaped a = true ∧ SeqAt.shaped b = true ∧ r = PyData.eqv a b) ∨ ∃ x xs, a = .list (x :: xs) ∧ b = .list [] ∧ r = false := by
  unfold eqD at e
  split at e
  · cases e; exact .inl ⟨_, _, rfl, rfl, rfl⟩
  · split at e
    · rename_i h; cases e; exact .inr (.inl ⟨h.1, h.2, rfl⟩)
    · split at e
      · cases e; exact .inr (.inr ⟨_, _, rfl, rfl, rfl⟩)
      · cases e
theorem or_eq (hu : X.A.units + 64 < cLine) : OpR X (compareOp .Eq) (rC eqD) := by
  intro pins s σ H x y v u Q I rx ry h
  obtain ⟨W, d1, d2, r, hw, h1, h2, e, k⟩ := h
  rcases eqD_or e with ⟨i, j, rfl, rfl, rfl⟩ | ⟨sa, sb, rfl⟩ | ⟨x0, xs0, rfl, rfl, rfl⟩
  · obtain rfl := h1.str; obtain rfl := h2.str
    refine op_eq pins s σ H _ _ v u Q I rx ry ⟨rfl, ?_⟩
    have : decide (V.str i = V.str j) = decide (i = j) := by simp
    rw [this]
    exact k
  · obtain ⟨as, q1⟩ := h1.reads I (lay_noDict sa) rx
    obtain ⟨bs, q2⟩ := h2.reads I (lay_noDict sb) ry
    exact eq_dataH q1 q2 sa sb hu ⟨.bl _, H, I, rfl, k⟩
  · obtain ⟨p, xs, rfl, e1, r1⟩ := h1
    obtain ⟨q, ys, rfl, e2, r2⟩ := h2
    cases rx; cases ry
    obtain ⟨its, v1, l1, _⟩ := I.list (SqL.of e1)
    obtain ⟨its2, v2, l2, _⟩ := I.list (SqL.of e2)
    have n1 : its.toArray.size = (x0 :: xs0).length := by rw [List.size_toArray, ← v1.length, r1.length]
    have n2 : its2.toArray.size = 0 := by rw [List.size_toArray, ← v2.length, r2.length]; rfl
    exact SeqAt.RcAt.lists_lengths l1.isList l2.isList (by rw [n1, n2]; simp) (by omega) X.prog X.w X.xe _ ⟨.bl _, H, I, rfl, k⟩
theorem or_ne (hu : X.A.units + 64 < cLine) : OpR X (compareOp .NotEq) (rC fun a b => (eqD a b).map not) := by
  intro pins s σ H x y v u Q I rx ry h
  obtain ⟨W, d1, d2, r, hw, h1, h2, e, k⟩ := h
  obtain ⟨c, ec, rfl⟩ := Option.map_eq_some_iff.mp e
  rcases eqD_or ec with ⟨i, j, rfl, rfl, rfl⟩ | ⟨sa, sb, rfl⟩ | ⟨x0, xs0, rfl, rfl, rfl⟩
  · obtain rfl := h1.str; obtain rfl := h2.str
    refine op_ne pins s σ H _ _ v u Q I rx ry ⟨rfl, ?_⟩
    have : decide (V.str i = V.str j) = decide (i = j) := by simp
    rw [this]
    exact k
  · obtain ⟨as, q1⟩ := h1.reads I (lay_noDict sa) rx
    obtain ⟨bs, q2⟩ := h2.reads I (lay_noDict sb) ry
    exact ne_dataH q1 q2 sa sb hu ⟨.bl _, H, I, rfl, k⟩
  · obtain ⟨p, xs, rfl, e1, r1⟩ := h1
    obtain ⟨q, ys, rfl, e2, r2⟩ := h2
    cases rx; cases ry
    obtain ⟨its, v1, l1, _⟩ := I.list (SqL.of e1)
    obtain ⟨its2, v2, l2, _⟩ := I.list (SqL.of e2)
    have n1 : its.toArray.size = (x0 :: xs0).length := by rw [List.size_toArray, ← v1.length, r1.length]
    have n2 : its2.toArray.size = 0 := by rw [List.size_toArray, ← v2.length, r2.length]; rfl
    exact SeqAt.RcNeAt.lists_lengths l1.isList l2.isList (by rw [n1, n2]; simp) (by omega) X.prog X.w X.xe _ ⟨.bl _, H, I, rfl, k⟩
theorem or_ints {op : CmpOp} {g : Int → Int → Bool} (ho : OpR X (compareOp op) (rI0 fun i j => .bl (g i j))) (hf : ∀ a b r, cmpA op a b = some r → ∃ i j, a = .int i ∧ b = .int j ∧ r = g i j) : OpR X (compareOp op) (rC (cmpA op)) := by
  intro pins s σ H x y v u Q I rx ry h
  obtain ⟨W, d1, d2, r, hw, h1, h2, e, k⟩ := h
  obtain ⟨i, j, rfl, rfl, rfl⟩ := hf _ _ _ e
  obtain rfl := h1.int; obtain rfl := h2.int
  exact ho pins s σ H _ _ v u Q I rx ry ⟨_, _, rfl, rfl, k⟩

/-! ### dicts: keys, what is found -/
theorem keyD_inj {a b : Key} (h : keyD a = keyD b) : a = b := by
  cases a <;> cases b <;> simp [keyD] at h <;> rw [h]
theorem keyEq_keyD (a b : Key) : keyEq (keyD a) (keyD b) = decide (a = b) := by
  cases a <;> cases b <;> simp [keyD, keyEq]
theorem eqv_keyD (a b : Key) : PyData.eqv (keyD a) (keyD b) = decide (a = b) := by
  cases a <;> cases b <;> simp [keyD, PyData.eqv, Bool.beq_eq_decide_eq]
theorem eqvAll_keyD : ∀ as bs : List Key, PyData.eqvAll (as.map keyD) (bs.map keyD) = decide (as = bs)
  | [], [] => rfl
  | [], b :: bs => by simp [PyData.eqvAll]
  | a :: as, [] => by simp [PyData.eqvAll]
  | a :: as, b :: bs => by
    simp only [List.map_cons, PyData.eqvAll, eqv_keyD, eqvAll_keyD as bs]
    by_cases h1 : a = b <;> by_cases h2 : as = bs <;> simp [h1, h2]
/-- a key's datum and its value -/
theorem key_int {x : V} {d : D} (h : R W H x d) (k : keyOk d = true) (nt : isTup d = false) : ∃ q : Key, x = kV q ∧ d = keyD q := by
  cases d with
  | int i => exact ⟨.inl i, RR.int h.rr, rfl⟩
  | str i => exact ⟨.inr i, RR.str h.rr, rfl⟩
  | tuple ds => simp [isTup] at nt
  | _ => simp [keyOk] at k
theorem keys_tup : ∀ {ds : List D} {xs : List V}, RA W H xs ds → ds.all atomK = true → ∃ ks : List Key, xs = ks.map kV ∧ ds = ks.map keyD
  | _, _, .nil, _ => ⟨[], rfl, rfl⟩
  | d :: ds, _, .cons a r, h => by
    simp only [List.all_cons, Bool.and_eq_true] at h
    obtain ⟨ks, h1, h2⟩ := keys_tup r h.2
    cases d with
    | int i => exact ⟨.inl i :: ks, by rw [RR.int a.rr, h1]; rfl, by rw [h2]; rfl⟩
    | str i => exact ⟨.inr i :: ks, by rw [RR.str a.rr, h1]; rfl, by rw [h2]; rfl⟩
    | _ => simp [atomK] at h
theorem key_tup {x : V} {d : D} (h : R W H x d) (k : keyOk d = true) (nt : isTup d = true) : ∃ (b : Addr) (ks : List Key), x = .ref b ∧ H b = some (.tup (ks.map kV)) ∧ d = .tuple (ks.map keyD) := by
  cases d with
  | tuple ds =>
    obtain ⟨a, xs, rfl, w, e, r⟩ := RR.tup h.rr
    obtain ⟨ks, h1, h2⟩ := keys_tup r k
    exact ⟨a, ks, rfl, by rw [e, h1], by rw [h2]⟩
  | _ => simp [isTup] at nt
/-- what a dict shows at a key -/
theorem look_K {k : Key} : ∀ {kvs : List (Key × V)} {es : List (D × D)}, kvs.map (fun p => keyD p.1) = es.map (·.1) → RA W H (kvs.map (·.2)) (es.map (·.2)) →
    (lookD (keyD k) es = none ∧ valV kvs k = none) ∨ ∃ v d, lookD (keyD k) es = some d ∧ valV kvs k = some v ∧ R W H v d
  | [], [], _, _ => .inl ⟨rfl, rfl⟩
  | [], _ :: _, h, _ => by simp at h
  | _ :: _, [], h, _ => by simp at h
  | p :: kvs, (k', d) :: es, h, r => by
    simp only [List.map_cons, List.cons.injEq] at h
    cases r with
    | cons a b =>
      by_cases e : p.1 = k
      · right
        refine ⟨p.2, d, ?_, valV_pos e, a⟩
        unfold lookD
        rw [← h.1, keyEq_keyD, e]
        simp
      · have q : keyEq k' (keyD k) = false := by rw [← h.1, keyEq_keyD]; simp [e]
        have := look_K (k := k) h.2 b
        unfold lookD
        rw [q, valV_neg e]
        exact this
theorem look_T {k : List Key} : ∀ {kvs : List (List Key × V)} {es : List (D × D)}, kvs.map (fun p => PyData.tuple (p.1.map keyD)) = es.map (·.1) → RA W H (kvs.map (·.2)) (es.map (·.2)) →
    (lookD (.tuple (k.map keyD)) es = none ∧ valV kvs k = none) ∨ ∃ v d, lookD (.tuple (k.map keyD)) es = some d ∧ valV kvs k = some v ∧ R W H v d
  | [], [], _, _ => .inl ⟨rfl, rfl⟩
  | [], _ :: _, h, _ => by simp at h
  | _ :: _, [], h, _ => by simp at h
  | p :: kvs, (k', d) :: es, h, r => by
    simp only [List.map_cons, List.cons.injEq] at h
    cases r with
    | cons a b =>
      by_cases e : p.1 = k
      · right
        refine ⟨p.2, d, ?_, valV_pos e, a⟩
        unfold lookD
        rw [← h.1]
        simp only [keyEq, eqvAll_keyD, e, decide_true, if_true]
      · have q : keyEq k' (.tuple (k.map keyD)) = false := by rw [← h.1]; simp only [keyEq, eqvAll_keyD]; simp [e]
        have := look_T (k := k) h.2 b
        unfold lookD
        rw [q, valV_neg e]
        exact this
theorem kinds_K {kvs : List (Key × V)} {es : List (D × D)} {d : D} (h : kvs.map (fun p => keyD p.1) = es.map (·.1)) (hk : kinds d es = true) (ht : isTup d = true) : kvs = [] ∧ es = [] := by
  cases kvs with
  | nil => cases es with
    | nil => exact ⟨rfl, rfl⟩
    | cons _ _ => simp at h
  | cons p r => cases es with
    | nil => simp at h
    | cons q t =>
      simp only [List.map_cons, List.cons.injEq] at h
      simp only [kinds, List.all_cons, Bool.and_eq_true] at hk
      rw [← h.1, ht] at hk
      cases e : p.1 <;> rw [e] at hk <;> simp [keyD, isTup] at hk
theorem kinds_T {kvs : List (List Key × V)} {es : List (D × D)} {d : D} (h : kvs.map (fun p => PyData.tuple (p.1.map keyD)) = es.map (·.1)) (hk : kinds d es = true) (ht : isTup d = false) : kvs = [] ∧ es = [] := by
  cases kvs with
  | nil => cases es with
    | nil => exact ⟨rfl, rfl⟩
    | cons _ _ => simp at h
  | cons p r => cases es with
    | nil => simp at h
    | cons q t =>
      simp only [List.map_cons, List.cons.injEq] at h
      simp only [kinds, List.all_cons, Bool.and_eq_true] at hk
      rw [← h.1, ht] at hk
      simp [isTup] at hk

/-! ### an empty dict is of either kind -/
theorem ObjOk.empty {P : Program} {w : World} {H H' : Hp} {h : Heap} {a : Addr} (x : ObjOk P w H h a (.dK [])) : ObjOk P w H' h a (.dT []) := by
  obtain ⟨z, y, vs, r, o, es, ep, e1, e2, e3, e4, e5, e6⟩ := x
  cases r
  have n : es.toList = [] := by
    cases q : es.toList with
    | nil => rfl
    | cons a b => rw [q] at e5; cases e5
  exact ⟨z, y, [], .nil, o, es, ep, e1, e2, e3, by rw [n]; rfl, by simp⟩
theorem ObjOk.emptyK {P : Program} {w : World} {H H' : Hp} {h : Heap} {a : Addr} (x : ObjOk P w H h a (.dT [])) : ObjOk P w H' h a (.dK []) := by
  obtain ⟨z, y, xs, r, o, es, ep, e1, e2, e3, e4, e5⟩ := x
  cases r
  have n : es = #[] := by
    have : es.toList = [] := by simpa using e4
    simpa using this
  subst n
  obtain ⟨o', es', ep', q1, q2, q3, q4, q5, q6⟩ := Heap.DictOf.new (knd := mixKind P w) h
  have e0 : (h.push { cls := .type "dict", data := .dict #[] }).get? h.objs.size = some { cls := .type "dict", data := .dict #[] } := Heap.get?_push_size _ rfl
  rw [e0] at q1
  cases q1
  have q3 : Data.dict #[] _ = Data.dict es' ep' := q3
  cases q3
  exact ⟨z, y, [], .nil, o, #[], ep, e1, e2, e3, q4, q5, by simp⟩
end
end Ev
end

section
set_option Elab.async false
set_option linter.all false
set_option maxRecDepth 100000
/-! Ev6: in, items, slices, built-ins, methods. -/
namespace Ev
open PySem PySem.Spec PyProof.Rows L2

section
variable {X : Cx} {pins : List (Addr × Obj)} {σ : L2.St} {W : Addr → Prop} {H H' : Hp} {s : Shared}

theorem Inv.flipK (I : Inv X pins σ H s) {a : Addr} (h : H a = some (.dT [])) : Inv X pins σ (upd H a (.dK [])) s := by
  have x : ObjOk X.prog X.w H s.heap a (.dT []) := I.hok a _ h
  obtain ⟨_, _, _, _, o, _, _, e, _⟩ := id x
  exact I.write (t' := s.toks) (h' := s.heap) (by rw [h]; trivial) (.inl rfl) (fun b u _ q => q) ⟨_, e⟩ (ObjOk.emptyK x)
theorem Inv.flipT (I : Inv X pins σ H s) {a : Addr} (h : H a = some (.dK [])) : Inv X pins σ (upd H a (.dT [])) s := by
  have x : ObjOk X.prog X.w H s.heap a (.dK []) := I.hok a _ h
  obtain ⟨_, _, _, _, o, _, _, e, _⟩ := id x
  exact I.write (t' := s.toks) (h' := s.heap) (by rw [h]; trivial) (.inl rfl) (fun b u _ q => q) ⟨_, e⟩ (ObjOk.empty x)
theorem upd_self {a : Addr} {o : HO} (h : H a = some o) : upd H a o = H := by
  funext b
  unfold upd
  split
  · rename_i e; rw [e, h]
  · rfl

/-- a dict as its entries say -/
def DR (W : Addr → Prop) (H : Hp) (a : Addr) (es : List (D × D)) : Prop :=
  (∃ kvs : List (Key × V), H a = some (.dK kvs) ∧ kvs.map (fun p => keyD p.1) = es.map (·.1) ∧ RA W H (kvs.map (·.2)) (es.map (·.2))) ∨
  ∃ kvs : List (List Key × V), H a = some (.dT kvs) ∧ kvs.map (fun p => PyData.tuple (p.1.map keyD)) = es.map (·.1) ∧ RA W H (kvs.map (·.2)) (es.map (·.2))
/-- what is found in a dict at a key: by DGet, perhaps behind a flip that is taken back -/
theorem dget {a : Addr} {es : List (D × D)} {y : V} {kd : D} (h : DR W H a es) (hy : R W H y kd) (ok : keyOk kd = true) (hk : kinds kd es = true) :
    ∃ H1 o, (∀ {s : Shared}, Inv X pins σ H s → Inv X pins σ H1 s) ∧ (∀ {s : Shared}, Inv X pins σ H1 s → Inv X pins σ H s) ∧ DGet H1 a y o ∧
      ((lookD kd es = none ∧ o = none) ∨ ∃ v d, lookD kd es = some d ∧ o = some v ∧ R W H v d) := by
  cases ht : isTup kd with
  | false =>
    obtain ⟨q, rfl, rfl⟩ := key_int hy ok ht
    rcases h with ⟨kvs, e, k1, r⟩ | ⟨kvs, e, k1, r⟩
    · exact ⟨H, valV kvs q, id, id, .k e, look_K k1 r⟩
    · obtain ⟨rfl, rfl⟩ := kinds_T k1 hk ht
      exact ⟨upd H a (.dK []), none, fun I => Inv.flipK I e, fun I => by
        have := Inv.flipT I (upd_same (H := H) (a := a) (o := .dK []))
        rwa [upd_upd, upd_self e] at this, .k (kvs := []) upd_same, .inl ⟨rfl, rfl⟩⟩
  | true =>
    obtain ⟨b, ks, rfl, eb, rfl⟩ := key_tup hy ok ht
    rcases h with ⟨kvs, e, k1, r⟩ | ⟨kvs, e, k1, r⟩
    · obtain ⟨rfl, rfl⟩ := kinds_K k1 hk ht
      have ne : b ≠ a := ne_of eb e (by intro z; cases z)
      exact ⟨upd H a (.dT []), none, fun I => Inv.flipT I e, fun I => by
        have := Inv.flipK I (upd_same (H := H) (a := a) (o := .dT []))
        rwa [upd_upd, upd_self e] at this, .t (kvs := []) upd_same (by rw [upd_ne ne]; exact eb), .inl ⟨rfl, rfl⟩⟩
    · exact ⟨H, valV kvs ks, id, id, .t e eb, look_T k1 r⟩

theorem shaped_seq {ds : List D} (h : SeqAt.shaped (.list ds) = true) : PyData.canLayAll0 ds = true := SeqAt.canLay_of_shaped h
theorem or_in (hu : X.A.units + 65 < cLine) : OpR X (compareOp .In) (rC (cmpA .In)) := by
  intro pins s σ H x y v u Q I rx ry h
  obtain ⟨W, d1, d2, r, hw, h1, h2, e, k⟩ := h
  have e : inD d1 d2 = some r := e
  unfold inD at e
  split at e
  · split at e
    · rename_i hs
      cases e
      obtain ⟨as, q1⟩ := h2.reads I (lay_noDict hs.2) ry
      obtain ⟨bs, q2⟩ := h1.reads I (lay_noDict hs.1) rx
      exact SeqAt.in_list_reads q1 q2 (SeqAt.canLay_of_shaped hs.2) (SeqAt.canLay_of_shaped hs.1) (room_in_shaped hs.1 hu) ⟨.bl _, H, I, rfl, k⟩
    · cases e
  · split at e
    · rename_i hs
      cases e
      obtain ⟨as, q1⟩ := h2.reads I (lay_noDict hs.2) ry
      obtain ⟨bs, q2⟩ := h1.reads I (lay_noDict hs.1) rx
      exact SeqAt.in_tuple_reads q1 q2 (SeqAt.canLay_of_shaped hs.2) (SeqAt.canLay_of_shaped hs.1) (room_in_shaped hs.1 hu) ⟨.bl _, H, I, rfl, k⟩
    · cases e
  · split at e
    · rename_i es hs
      cases e
      obtain ⟨a, rfl, hd⟩ := h2
      cases ry
      have hx : R W H x d1 := by
        cases d1 <;> first
          | exact h1
          | simp [keyOk] at hs
      obtain ⟨H1, o, f1, f2, g, hl⟩ := dget (X := X) (pins := pins) (σ := σ) hd hx hs.1 hs.2
      refine d_in (by omega) (f1 I) g rx fun s' I' => ⟨.bl o.isSome, H, f2 I', rfl, ?_⟩
      rcases hl with ⟨l1, rfl⟩ | ⟨v', d', l1, rfl, _⟩
      · rw [l1] at k; exact k
      · rw [l1] at k; exact k
    · cases e
  · cases e
theorem or_notIn (hu : X.A.units + 65 < cLine) : OpR X (compareOp .NotIn) (rC (cmpA .NotIn)) := by
  intro pins s σ H x y v u Q I rx ry h
  obtain ⟨W, d1, d2, r, hw, h1, h2, e, k⟩ := h
  have e : (inD d1 d2).map not = some r := e
  cases e1 : inD d1 d2 with
  | none => rw [e1] at e; cases e
  | some c =>
    rw [e1] at e
    cases e
    unfold inD at e1
    split at e1
    · split at e1
      · rename_i hs
        cases e1
        obtain ⟨as, q1⟩ := h2.reads I (lay_noDict hs.2) ry
        obtain ⟨bs, q2⟩ := h1.reads I (lay_noDict hs.1) rx
        exact SeqAt.notIn_list_reads q1 q2 (SeqAt.canLay_of_shaped hs.2) (SeqAt.canLay_of_shaped hs.1) (room_in_shaped hs.1 hu) ⟨.bl _, H, I, rfl, k⟩
      · cases e1
    · split at e1
      · rename_i hs
        cases e1
        obtain ⟨as, q1⟩ := h2.reads I (lay_noDict hs.2) ry
        obtain ⟨bs, q2⟩ := h1.reads I (lay_noDict hs.1) rx
        exact SeqAt.notIn_tuple_reads q1 q2 (SeqAt.canLay_of_shaped hs.2) (SeqAt.canLay_of_shaped hs.1) (room_in_shaped hs.1 hu) ⟨.bl _, H, I, rfl, k⟩
      · cases e1
    · split at e1
      · rename_i es hs
        cases e1
        obtain ⟨a, rfl, hd⟩ := h2
        cases ry
        have hx : R W H x d1 := by
          cases d1 <;> first
            | exact h1
            | simp [keyOk] at hs
        obtain ⟨H1, o, f1, f2, g, hl⟩ := dget (X := X) (pins := pins) (σ := σ) hd hx hs.1 hs.2
        refine d_notIn (by omega) (f1 I) g rx fun s' I' => ⟨.bl (!o.isSome), H, f2 I', rfl, ?_⟩
        rcases hl with ⟨l1, rfl⟩ | ⟨v', d', l1, rfl, _⟩
        · rw [l1] at k; exact k
        · rw [l1] at k; exact k
      · cases e1
    · cases e1
/-- every comparison -/
theorem or_cmp (hu : X.A.units + 65 < cLine) : ∀ op : CmpOp, OpR X (compareOp op) (rC (cmpA op))
  | .In => or_in hu
  | .NotIn => or_notIn hu
  | .Eq => or_eq (by omega)
  | .NotEq => or_ne (by omega)
  | .Lt => or_ints op_lt fun a b r e => by
    simp only [cmpA] at e
    cases a <;> cases b <;> simp [cmpD] at e
    exact ⟨_, _, rfl, rfl, e.symm⟩
  | .LtE => or_ints op_le fun a b r e => by
    simp only [cmpA] at e
    cases a <;> cases b <;> simp [cmpD] at e
    exact ⟨_, _, rfl, rfl, e.symm⟩
  | .Gt => or_ints op_gt fun a b r e => by
    simp only [cmpA] at e
    cases a <;> cases b <;> simp [cmpD] at e
    exact ⟨_, _, rfl, rfl, e.symm⟩
  | .GtE => or_ints op_ge fun a b r e => by
    simp only [cmpA] at e
    cases a <;> cases b <;> simp [cmpD] at e
    exact ⟨_, _, rfl, rfl, e.symm⟩
  | .Is => fun pins s σ H x y v u Q I rx ry ⟨W, d1, d2, r, hw, h1, h2, e, k⟩ => by
    cases d1 <;> cases d2 <;> simp [cmpA, cmpD] at e
    subst e
    obtain rfl := h1.bl; obtain rfl := h2.bl
    cases rx; cases ry
    exact is_bool (fin_bl I k rfl)
  | .IsNot => fun pins s σ H x y v u Q I rx ry ⟨W, d1, d2, r, hw, h1, h2, e, k⟩ => by
    cases d1 <;> cases d2 <;> simp [cmpA, cmpD] at e
    subst e
    obtain rfl := h1.bl; obtain rfl := h2.bl
    cases rx; cases ry
    exact isnot_bool (fin_bl I k rfl)
end
end Ev
end

section
set_option Elab.async false
set_option linter.all false
set_option maxRecDepth 100000
/-! Ev7: items, slices, built-ins, methods. -/
namespace Ev
open PySem PySem.Spec PyProof.Rows L2

section
variable {X : Cx} {pins : List (Addr × Obj)} {σ : L2.St} {W : Addr → Prop} {H H' : Hp} {s : Shared}

/-! ### items -/
theorem atI_map {xs : List V} {ds : List D} (r : RA W H xs ds) {i : Int} {d : D} (h : atI ds i = some d) : ∃ v, atI xs i = some v ∧ R W H v d := by
  unfold atI at h ⊢
  rw [r.length]
  cases e : ixN ds.length i with
  | none => rw [e] at h; cases h
  | some j =>
    rw [e] at h
    exact r.get h
def rIdx : R2 := fun x y H Q => ∃ W d1 d2 r, RR W H x d1 ∧ R W H y d2 ∧ idxD d1 d2 = some r ∧ ∀ z, R W H z r → Q z H
theorem ix_D (hu : X.A.units + 1 < cLine) : IxR X rIdx := by
  intro value slice pins s σ H x y v u Q I rx ry h hs
  obtain ⟨W, d1, d2, r, h1, h2, e, k⟩ := h
  unfold idxD at e
  split at e
  · obtain ⟨a, xs, rfl, e1, ra⟩ := h1
    obtain ⟨z, hz, rz⟩ := atI_map ra e
    obtain rfl := RR.int h2.rr
    exact ix_list value slice pins s σ H _ _ v u Q I rx ry ⟨a, xs, _, z, rfl, rfl, SqL.of e1, hz, k z rz⟩ hs
  · obtain ⟨a, xs, rfl, w, e1, ra⟩ := h1.tup
    obtain ⟨z, hz, rz⟩ := atI_map ra e
    obtain rfl := RR.int h2.rr
    exact ix_tup value slice pins s σ H _ _ v u Q I rx ry ⟨a, xs, _, z, rfl, rfl, SqT.of e1, hz, k z rz⟩ hs
  · split at e
    · rename_i es hk
      obtain ⟨a, rfl, hd⟩ := h1
      cases rx
      obtain ⟨H1, o, f1, f2, g, hl⟩ := dget (X := X) (pins := pins) (σ := σ) hd h2 hk.1 hk.2
      rcases hl with ⟨l1, _⟩ | ⟨v', d', l1, rfl, rv⟩
      · rw [l1] at e; cases e
      · rw [l1] at e; cases e
        exact tail_any (dict_typeIs (f1 I) g) PySem.F.slot_dict_getitem.lookup (d_getItem hu (f1 I) g ry fun w' s' I' rw' => ⟨v', H, f2 I', rw', k v' rv⟩) hs
    · cases e
  · cases e
/-- a field of a record -/
def rFldK : R2 := fun x y H Q => ∃ (a : Addr) (kvs : List (Key × V)) (k : Key) (v : V), x = .ref a ∧ H a = some (.dK kvs) ∧ y = kV k ∧ valV kvs k = some v ∧ Q v H
theorem ix_rec (hu : X.A.units + 1 < cLine) : IxR X rFldK := by
  intro value slice pins s σ H x y v u Q I rx ry h hs
  obtain ⟨a, kvs, k, z, rfl, e, rfl, hv, q⟩ := h
  cases rx
  have g : DGet H a (kV k) (some z) := by rw [← hv]; exact .k e
  exact tail_any (dict_typeIs I g) PySem.F.slot_dict_getitem.lookup (d_getItem hu I g ry fun w' s' I' rw' => ⟨z, H, I', rw', q⟩) hs

/-! ### slices -/
def rSlc : V → Option Int → Option Int → Hp → VK → Prop := fun x lo hi H Q => ∃ W d r, (∀ a, W a → H a ≠ none) ∧ RR W H x d ∧ slcD d lo hi = some r ∧ ∀ z H', Res W H H' z r → Q z H'
theorem cut_map {xs : List V} {ds : List D} (r : RA W H xs ds) (lo hi : Option Int) : RA W H (cutV xs lo hi) (cutD ds lo hi) := by
  unfold cutV cutD
  rw [r.length]
  exact (r.drop _).take _
theorem sl_D : SlR X rSlc := by
  intro pins s σ H x v vl vu lo hi sl Q I rx hs pl pu h
  obtain ⟨W, d, r, hw, h1, e, k⟩ := h
  unfold slcD at e
  split at e
  · cases e
    obtain ⟨a, xs, rfl, e1, ra⟩ := h1
    exact sl_list pins s σ H _ v vl vu lo hi sl Q I rx hs pl pu ⟨a, xs, rfl, SqL.of e1, fun p hp => k _ _ ((cut_map ra lo hi).newL hp)⟩
  · cases e
    obtain ⟨a, xs, rfl, w, e1, ra⟩ := h1.tup
    refine sl_tupA pins s σ H _ v vl vu lo hi sl Q I rx hs pl pu ⟨a, xs, rfl, SqT.of e1, fun hw' => k _ _ (Res.same ?_ rfl), fun _ p hp => k _ _ ((cut_map ra lo hi).newT hp hw)⟩
    rw [ra.length] at hw'
    unfold cutD
    rw [hw'.1, hw'.2]
    simp only [List.drop_zero, Nat.sub_zero, List.take_length]
    exact .tup w e1 ra
  · cases e

/-! ### built-ins -/
def rB (f : List D → Option D) : List V → Hp → VK → Prop := fun xs H Q => ∃ W ds r, (∀ a, W a → H a ≠ none) ∧ Paired (RR W H) xs ds ∧ f ds = some r ∧ ∀ z H', Res W H H' z r → Q z H'
theorem P1 {xs : List V} {d : D} (h : Paired (RR W H) xs [d]) : ∃ x, xs = [x] ∧ RR W H x d := by
  cases h with
  | cons a b => cases b; exact ⟨_, rfl, a⟩
theorem P2 {xs : List V} {d e : D} (h : Paired (RR W H) xs [d, e]) : ∃ x y, xs = [x, y] ∧ RR W H x d ∧ RR W H y e := by
  cases h with
  | cons a b => cases b with
    | cons c d => cases d; exact ⟨_, _, rfl, a, c⟩
theorem ints_map : ∀ {ds : List D} {ns : List Int}, intsOf ds = some ns → ds = ns.map PyData.int
  | [], _, h => by simp only [intsOf] at h; cases h; rfl
  | d :: ds, ns, h => by
    cases d with
    | int i =>
      simp only [intsOf] at h
      obtain ⟨ms, h1, rfl⟩ := Option.map_eq_some_iff.mp h
      rw [ints_map h1]; rfl
    | _ => simp [intsOf] at h
theorem bools_map : ∀ {ds : List D} {ns : List Bool}, boolsOf ds = some ns → ds = ns.map PyData.bool
  | [], _, h => by simp only [boolsOf] at h; cases h; rfl
  | d :: ds, ns, h => by
    cases d with
    | bool i =>
      simp only [boolsOf] at h
      obtain ⟨ms, h1, rfl⟩ := Option.map_eq_some_iff.mp h
      rw [bools_map h1]; rfl
    | _ => simp [boolsOf] at h
theorem cr_lenD : CallR X (.builtin "len") (rB lenD) := by
  intro pins s σ H xs us Q I r ⟨W, ds, res, hw, hp, e, k⟩
  unfold lenD at e
  split at e
  · cases e
    obtain ⟨x, rfl, a, ys, rfl, e1, ra⟩ := P1 hp
    exact call_len_seq pins s σ H _ us Q I r ⟨a, ys, rfl, .inl (SqL.of e1), by rw [ra.length]; exact k _ _ resI⟩
  · cases e
    obtain ⟨x, rfl, h1⟩ := P1 hp
    obtain ⟨a, ys, rfl, w, e1, ra⟩ := h1.tup
    exact call_len_seq pins s σ H _ us Q I r ⟨a, ys, rfl, .inr (SqT.of e1), by rw [ra.length]; exact k _ _ resI⟩
  · cases e
    rename_i es
    obtain ⟨x, rfl, a, rfl, hd⟩ := P1 hp
    cases r with
    | cons r1 r2 =>
      cases r2
      cases r1
      rcases hd with ⟨kvs, e1, k1, ra⟩ | ⟨kvs, e1, k1, ra⟩
      · have hl : kvs.length = es.length := by simpa using congrArg List.length k1
        exact d_len I (.inl e1) fun t s' I' => ⟨.int kvs.length, H, I', ⟨t, rfl⟩, by rw [hl]; exact k _ _ resI⟩
      · have hl : kvs.length = es.length := by simpa using congrArg List.length k1
        exact call_len_dT pins s σ H [.ref a] _ Q I (Paired.cons (show RelV (.ref a) (.ref a) from rfl) .nil) ⟨a, kvs, rfl, by first | exact e1 | exact .inl e1, by rw [hl]; exact k _ _ resI⟩
  · cases e
theorem cr_absD : CallR X (.builtin "abs") (rB absD) := by
  intro pins s σ H xs us Q I r ⟨W, ds, res, hw, hp, e, k⟩
  unfold absD at e
  split at e
  · cases e
    obtain ⟨x, rfl, h1⟩ := P1 hp
    obtain rfl := h1.int
    exact call_abs pins s σ H _ us Q I r ⟨_, rfl, k _ _ resI⟩
  · cases e
theorem cr_intD : CallR X (.type "int") (rB intD) := by
  intro pins s σ H xs us Q I r ⟨W, ds, res, hw, hp, e, k⟩
  unfold intD at e
  split at e
  · cases e
    obtain ⟨x, rfl, h1⟩ := P1 hp
    obtain rfl := h1.int
    exact call_int1 pins s σ H _ us Q I r (.inl ⟨_, rfl, k _ _ resI⟩)
  · cases e
    obtain ⟨x, rfl, h1⟩ := P1 hp
    obtain rfl := h1.bl
    exact call_int1 pins s σ H _ us Q I r (.inr ⟨_, rfl, k _ _ resI⟩)
  · cases e
theorem maxI_max : ∀ (ns : List Int) (n : Int), maxI n ns ∈ n :: ns ∧ ∀ m ∈ n :: ns, m ≤ maxI n ns
  | [], n => ⟨by simp [maxI], fun m h => by simp [maxI] at h ⊢; omega⟩
  | a :: ns, n => by
    obtain ⟨h1, h2⟩ := maxI_max ns (if a > n then a else n)
    unfold maxI
    refine ⟨?_, fun m hm => ?_⟩
    · rcases List.mem_cons.mp h1 with h | h
      · rw [h]; split <;> simp
      · simp [h]
    · have h0 := h2 _ List.mem_cons_self
      rcases List.mem_cons.mp hm with rfl | hm
      · split at h0 <;> split <;> omega
      · rcases List.mem_cons.mp hm with rfl | hm
        · split at h0 <;> split <;> omega
        · exact h2 m (List.mem_cons_of_mem _ hm)
theorem minI_min : ∀ (ns : List Int) (n : Int), minI n ns ∈ n :: ns ∧ ∀ m ∈ n :: ns, minI n ns ≤ m
  | [], n => ⟨by simp [minI], fun m h => by simp [minI] at h ⊢; omega⟩
  | a :: ns, n => by
    obtain ⟨h1, h2⟩ := minI_min ns (if a < n then a else n)
    unfold minI
    refine ⟨?_, fun m hm => ?_⟩
    · rcases List.mem_cons.mp h1 with h | h
      · rw [h]; split <;> simp
      · simp [h]
    · have h0 := h2 _ List.mem_cons_self
      rcases List.mem_cons.mp hm with rfl | hm
      · split at h0 <;> split <;> omega
      · rcases List.mem_cons.mp hm with rfl | hm
        · split at h0 <;> split <;> omega
        · exact h2 m (List.mem_cons_of_mem _ hm)
theorem cr_maxD (hc : X.calm = true) : CallR X (.builtin "max") (rB maxD) := by
  intro pins s σ H xs us Q I r ⟨W, ds, res, hw, hp, e, k⟩
  unfold maxD at e
  split at e
  · cases e
    obtain ⟨x, y, rfl, h1, h2⟩ := P2 hp
    obtain rfl := h1.int; obtain rfl := h2.int
    exact call_max2 hc pins s σ H _ us Q I r ⟨_, _, rfl, k _ _ resI⟩
  · split at e
    · rename_i n ns hi
      cases e
      obtain ⟨x, rfl, a, ys, rfl, e1, ra⟩ := P1 hp
      rw [ints_map hi] at ra
      rw [ra.ints_of] at e1
      refine cr_max hc pins s σ H _ us Q I r ⟨a, n :: ns, rfl, SqL.of e1, by simp, fun m h1 h2 => ?_⟩
      obtain ⟨h3, h4⟩ := maxI_max ns n
      have : m = maxI n ns := Int.le_antisymm (h4 m h1) (h2 _ h3)
      rw [this]
      exact k _ _ resI
    · cases e
  · cases e
theorem cr_minD (hc : X.calm = true) (hu : X.A.units + 200 < cLine) : CallR X (.builtin "min") (rB minD) := by
  intro pins s σ H xs us Q I r ⟨W, ds, res, hw, hp, e, k⟩
  unfold minD at e
  split at e
  · cases e
    obtain ⟨x, y, rfl, h1, h2⟩ := P2 hp
    obtain rfl := h1.int; obtain rfl := h2.int
    exact call_min2 hc pins s σ H _ us Q I r ⟨_, _, rfl, k _ _ resI⟩
  · split at e
    · rename_i n ns hi
      cases e
      obtain ⟨x, rfl, a, ys, rfl, e1, ra⟩ := P1 hp
      rw [ints_map hi] at ra
      rw [ra.ints_of] at e1
      refine cr_min hc pins s σ H _ us Q I r ⟨a, n :: ns, rfl, SqL.of e1, by simp, fun m h1 h2 => ?_⟩
      obtain ⟨h3, h4⟩ := minI_min ns n
      have : m = minI n ns := Int.le_antisymm (h2 _ h3) (h4 m h1)
      rw [this]
      exact k _ _ resI
    · rename_i ds _ _
      split at e
      · rename_i x0 xs0 _
        split at e
        · rename_i ok
          cases e
          obtain ⟨x, rfl, a, ys, rfl, e1, ra⟩ := P1 hp
          simp only [leastOk, Bool.and_eq_true, List.all_eq_true, decide_eq_true_eq, Bool.not_eq_true'] at ok
          obtain ⟨⟨⟨ok1, ok2⟩, ok3⟩, ok4⟩ := ok
          obtain ⟨its, rv, l1, _⟩ := I.list (SqL.of e1)
          rw [Vals.ref1 r]
          have nd : PyData.hasDictAll (x0 :: xs0) = false := by
            have : ∀ l : List D, (∀ d ∈ l, d.hasDict = false) → PyData.hasDictAll l = false := by
              intro l
              induction l with
              | nil => intro _; rfl
              | cons d l ih => intro h; simp only [PyData.hasDictAll, Bool.or_eq_false_iff]; exact ⟨h d List.mem_cons_self, ih fun x hx => h x (List.mem_cons_of_mem _ hx)⟩
            exact this _ fun d hd => (ok4 d hd).2
          have dp : PyData.depthAll (x0 :: xs0) ≤ 40 := by
            have : ∀ l : List D, (∀ d ∈ l, d.depth ≤ 40) → PyData.depthAll l ≤ 40 := by
              intro l
              induction l with
              | nil => intro _; exact Nat.zero_le _
              | cons d l ih => intro h; simp only [PyData.depthAll]; exact Nat.max_le.mpr ⟨h d List.mem_cons_self, ih fun x hx => h x (List.mem_cons_of_mem _ hx)⟩
            exact this _ fun d hd => (ok4 d hd).1
          obtain ⟨as, rd⟩ := RA.reads I _ _ _ nd ra rv
          refine PySem.W.min_list_data (I.ok.hd hc) l1.isList (as := as) (by simpa using rd) ⟨ok1, fun d hd z => ?_⟩ (by omega) fun i v h' tk bs hv hr hk => ?_
          · have := ok2 d hd
            rw [z] at this
            simp [tupNe] at this
          · have hv : its[i]? = some v := by simpa using hv
            have hil := (List.getElem?_eq_some_iff.mp hv).1
            have hyl : i < ys.length := by rw [rv.length]; exact hil
            have hz : ys[i]? = some ys[i] := List.getElem?_eq_getElem hyl
            obtain ⟨v', hv', rz⟩ := Vals.get rv hz
            rw [hv] at hv'
            cases hv'
            generalize ys[i] = z at hz rz
            obtain ⟨d, hd, rd⟩ := ra.getV hz
            have nd1 : d.hasDict = false := (ok4 d (List.mem_of_getElem? hd)).2
            obtain ⟨as1, q1⟩ := R.reads I d z v nd1 rd rz
            obtain ⟨e3, _⟩ := PyProof.Rows.reads_det (fun b o q _ => hk b o q) q1 hr
            refine ⟨z, H, I.kept (t' := tk) hk, rz, ?_⟩
            have ht : tupNe d = true := ok2 d (List.mem_of_getElem? hd)
            have hf : isFresh d = false := by cases d <;> first | rfl | simp [tupNe] at ht
            exact k _ _ (by rw [e3]; exact Res.same rd hf)
        · cases e
      · cases e
  · cases e
theorem cr_sumD (hc : X.calm = true) : CallR X (.builtin "sum") (rB sumD1) := by
  intro pins s σ H xs us Q I r ⟨W, ds, res, hw, hp, e, k⟩
  unfold sumD1 at e
  split at e
  · obtain ⟨ns, hi, rfl⟩ := Option.map_eq_some_iff.mp e
    obtain ⟨x, rfl, a, ys, rfl, e1, ra⟩ := P1 hp
    rw [ints_map hi] at ra
    rw [ra.ints_of] at e1
    exact cr_sum hc pins s σ H _ us Q I r ⟨a, ns, rfl, SqL.of e1, k _ _ resI⟩
  · obtain ⟨ns, hi, rfl⟩ := Option.map_eq_some_iff.mp e
    obtain ⟨x, rfl, h1⟩ := P1 hp
    obtain ⟨a, ys, rfl, w, e1, ra⟩ := h1.tup
    rw [ints_map hi] at ra
    rw [ra.ints_of] at e1
    cases r with
    | cons r1 r2 =>
      cases r2
      cases r1
      obtain ⟨its, rv, ht, hz⟩ := I.tuple (SqT.of e1)
      have hA := Vals.ints rv
      obtain ⟨ys', e2⟩ := hA.allInts.items
      have hn : numsOf (intItems ys').toList = ns := by rw [← e2]; exact hA.numsOf
      rw [nums_intItems] at hn
      rw [e2] at ht
      refine PySem.W.ktm_sumG (I.ok.hd hc) ht fun h' tk t' hk => ?_
      rw [preSum_eq, List.take_of_length_le (by simp), hn]
      exact ⟨.int ns.sum, H, I.kept (t' := tk) hk, ⟨t', rfl⟩, k _ _ resI⟩
  · cases e
theorem cr_anyD (hc : X.calm = true) : CallR X (.builtin "any") (rB anyD) := by
  intro pins s σ H xs us Q I r ⟨W, ds, res, hw, hp, e, k⟩
  unfold anyD at e
  split at e
  · obtain ⟨ns, hi, rfl⟩ := Option.map_eq_some_iff.mp e
    obtain ⟨x, rfl, a, ys, rfl, e1, ra⟩ := P1 hp
    rw [bools_map hi] at ra
    rw [ra.bls_of] at e1
    exact cr_any hc pins s σ H _ us Q I r ⟨a, ns, rfl, SqL.of e1, k _ _ (Res.same (.bl _) rfl)⟩
  · cases e
theorem cr_allD (hc : X.calm = true) : CallR X (.builtin "all") (rB allD) := by
  intro pins s σ H xs us Q I r ⟨W, ds, res, hw, hp, e, k⟩
  unfold allD at e
  split at e
  · obtain ⟨ns, hi, rfl⟩ := Option.map_eq_some_iff.mp e
    obtain ⟨x, rfl, a, ys, rfl, e1, ra⟩ := P1 hp
    rw [bools_map hi] at ra
    rw [ra.bls_of] at e1
    exact cr_all hc pins s σ H _ us Q I r ⟨a, ns, rfl, SqL.of e1, k _ _ (Res.same (.bl _) rfl)⟩
  · cases e
theorem cr_tupD : CallR X (.type "tuple") (rB tupD) := by
  intro pins s σ H xs us Q I r ⟨W, ds, res, hw, hp, e, k⟩
  unfold tupD at e
  split at e
  · cases e
    obtain ⟨x, rfl, a, ys, rfl, e1, ra⟩ := P1 hp
    exact call_tuple_of pins s σ H _ us Q I r ⟨a, ys, rfl, .inl ⟨SqL.of e1, fun l hl => k _ _ (ra.newT hl hw)⟩⟩
  · cases e
    obtain ⟨x, rfl, h1⟩ := P1 hp
    obtain ⟨a, ys, rfl, w, e1, ra⟩ := h1.tup
    exact call_tuple_of pins s σ H _ us Q I r ⟨a, ys, rfl, .inr ⟨SqT.of e1, k _ _ (Res.same (.tup w e1 ra) rfl)⟩⟩
  · cases e
theorem cr_lstD : CallR X (.type "list") (rB lstD) := by
  intro pins s σ H xs us Q I r ⟨W, ds, res, hw, hp, e, k⟩
  unfold lstD at e
  split at e
  · cases e
    obtain ⟨x, rfl, a, ys, rfl, e1, ra⟩ := P1 hp
    exact call_list_of pins s σ H _ us Q I r ⟨a, ys, rfl, .inl (SqL.of e1), fun l hl => k _ _ (ra.newL hl)⟩
  · cases e
    obtain ⟨x, rfl, h1⟩ := P1 hp
    obtain ⟨a, ys, rfl, w, e1, ra⟩ := h1.tup
    exact call_list_of pins s σ H _ us Q I r ⟨a, ys, rfl, .inr (SqT.of e1), fun l hl => k _ _ (ra.newL hl)⟩
  · cases e
/-! ### data whose dicts are empty are shown -/
mutual
theorem R.showR {X : Cx} {pins : List (Addr × Obj)} {σ : L2.St} {W : Addr → Prop} {H : Hp} {s : Shared} (I : Inv X pins σ H s) : ∀ (d : D) (v : V) (u : Value), dE d = true → d.showable = true → d.shown.length ≤ sizeLine → R W H v d → RelV v u →
    ∃ as bs, Reads s.heap u d as ∧ ReadAtMost s.heap d.depth bs ∧ ReprK X.prog X.w bs s.heap d.depth u d.shown
  | .none, _, _, _, _, _, h, r => by cases h; cases r; exact ⟨_, [], Reads.none, (fun _ h => nomatch h), by simp only [PyData.shown]; exact .of_is ReprIs.none _ _ _⟩
  | .bool b, _, _, _, _, _, h, r => by cases h; cases r; exact ⟨_, [], Reads.bool b, (fun _ h => nomatch h), by simp only [PyData.shown]; exact .of_is (ReprIs.bool b) _ _ _⟩
  | .int i, _, _, _, hs, _, h, r => by cases h; obtain ⟨t, rfl⟩ := r; exact ⟨_, [], Reads.int i t, (fun _ h => nomatch h), by simp only [PyData.shown]; exact .of_is (ReprIs.int t (by simpa [PyData.showable] using hs)) _ _ _⟩
  | .str x, _, _, _, _, hz, h, r => by cases h; obtain ⟨t, rfl⟩ := r; exact ⟨_, [], Reads.str x t, (fun _ h => nomatch h), by simp only [PyData.shown]; exact .of_is (ReprIs.str x t (by simpa only [PyData.shown] using hz)) _ _ _⟩
  | .dict es, v, u, nd, _, _, h, r => by
    have n0 : es = [] := by simpa [dE] using nd
    subst n0
    have emp : ∃ a, v = .ref a ∧ ObjOk X.prog X.w H s.heap a (.dT []) := by
      cases h with
      | dK w e k ra =>
        rename_i a kvs
        have : kvs = [] := by simpa using k
        subst this
        exact ⟨a, rfl, ObjOk.empty (I.hok a _ e)⟩
      | dT w e k ra =>
        rename_i a kvs
        have : kvs = [] := by simpa using k
        subst this
        exact ⟨a, rfl, I.hok a _ e⟩
    obtain ⟨a, rfl, _, ys, xs', q, o, es, ep, h1, h2, h3, h4, _⟩ := emp
    cases r
    cases q
    have n : es = #[] := by
      have : es.toList = [] := by simpa using h4
      simpa using this
    subst n
    have rd : Reads s.heap (.ref a) (.dict []) _ := Reads.dict h1 h2.1 h3 (by exact .nil) (by exact .nil)
    refine ⟨_, [a], rd, fun b hb => ?_, ?_⟩
    · have hb : b = a := by simpa using hb
      subst hb
      exact ⟨_, _, rd, Nat.le_refl _⟩
    · have := ReprK.dict (prog := X.prog) (w := X.w) (as := []) (d := 0) h1 h2.1 h3 ys (by simp) (ReprEntriesK.of_two [] [] [] .nil .nil)
      simpa [PyData.depth, PyData.depthKv, PyData.shown, PyData.shownKv] using this
  | .list ds, _, _, nd, hs, hz, h, r => by
    cases h with
    | lst w e ra =>
      cases r
      rename_i a xs
      obtain ⟨its, rv, ⟨o, n, e1, e2, _, e4⟩, _⟩ := I.list (SqL.of e)
      have hz' : (listText (PyData.shownAll ds)).length ≤ sizeLine := by simpa only [PyData.shown] using hz
      obtain ⟨as, bs, q, hb, hk⟩ := RA.showR I ds _ its (by simpa [dE] using nd) (by simpa [PyData.showable] using hs) (fun t ht => Nat.le_trans (listText_mem_le ht) hz') ra rv
      have rd : Reads s.heap (.ref a) (.list ds) _ := Reads.list e1 e2 e4 (by simpa using q)
      have hna : a ∉ bs := not_mem_of_deeper rd (by simp only [PyData.depth]; omega) hb
      refine ⟨_, a :: bs, rd, ReadAtMost.cons rd (by simp only [PyData.depth]; omega) hb, ?_⟩
      simp only [PyData.depth, PyData.shown]
      cases its with
      | nil =>
        cases q
        simp only [PyData.shownAll, listText_nil]
        exact ReprK.listEmpty e1 e2 e4
      | cons x l => exact ReprK.list e1 e2 e4 hna (by simpa using hk.length_eq) (fun i y e => hk.item i y (by simpa using e))
  | .tuple ds, _, _, nd, hs, hz, h, r => by
    cases h with
    | tup w e ra =>
      cases r
      rename_i a xs
      obtain ⟨its, rv, ⟨o, e1, e2, n, e4⟩, _⟩ := I.tuple (SqT.of e)
      have hz' : (tupleText (PyData.shownAll ds)).length ≤ sizeLine := by simpa only [PyData.shown] using hz
      obtain ⟨as, bs, q, hb, hk⟩ := RA.showR I ds _ its (by simpa [dE] using nd) (by simpa [PyData.showable] using hs) (fun t ht => Nat.le_trans (tupleText_mem_le ht) hz') ra rv
      have rd : Reads s.heap (.ref a) (.tuple ds) _ := Reads.tuple e1 e2 e4 (by simpa using q)
      have hna : a ∉ bs := not_mem_of_deeper rd (by simp only [PyData.depth]; omega) hb
      refine ⟨_, a :: bs, rd, ReadAtMost.cons rd (by simp only [PyData.depth]; omega) hb, ?_⟩
      simp only [PyData.depth, PyData.shown]
      exact ReprK.tuple e1 e2 e4 hna (by simpa using hk)
theorem RA.showR {X : Cx} {pins : List (Addr × Obj)} {σ : L2.St} {W : Addr → Prop} {H : Hp} {s : Shared} (I : Inv X pins σ H s) : ∀ (ds : List D) (vs : List V) (us : List Value), dEs ds = true → PyData.showableAll ds = true → (∀ t ∈ PyData.shownAll ds, t.length ≤ sizeLine) → RA W H vs ds → Vals vs us →
    ∃ as bs, ReadsAll s.heap us ds as ∧ ReadAtMost s.heap (PyData.depthAll ds) bs ∧ ReprAllK X.prog X.w bs s.heap (PyData.depthAll ds) us (PyData.shownAll ds)
  | [], _, _, _, _, _, h, r => by cases h; cases r; exact ⟨_, [], ReadsAll.nil, (fun _ h => nomatch h), by simp only [PyData.shownAll]; exact .nil⟩
  | d :: ds, _, _, nd, hs, hz, h, r => by
    cases h with
    | cons a b =>
      cases r with
      | cons p q =>
        have nd : dE d = true ∧ dEs ds = true := by simpa [dEs] using nd
        have hs' : d.showable = true ∧ PyData.showableAll ds = true := by simpa [PyData.showableAll] using hs
        obtain ⟨as, b1, h1, hb1, k1⟩ := R.showR I d _ _ nd.1 hs'.1 (hz _ (by simp only [PyData.shownAll]; exact List.mem_cons_self ..)) a p
        obtain ⟨bs, b2, h2, hb2, k2⟩ := RA.showR I ds _ _ nd.2 hs'.2 (fun t ht => hz t (by simp only [PyData.shownAll]; exact List.mem_cons_of_mem _ ht)) b q
        refine ⟨_, b1 ++ b2, ReadsAll.cons h1 h2, ?_, ?_⟩
        · intro b hm
          simp only [PyData.depthAll]
          rcases List.mem_append.mp hm with hm | hm
          · obtain ⟨d', as', r', hd'⟩ := hb1 b hm
            exact ⟨d', as', r', Nat.le_trans hd' (Nat.le_max_left _ _)⟩
          · obtain ⟨d', as', r', hd'⟩ := hb2 b hm
            exact ⟨d', as', r', Nat.le_trans hd' (Nat.le_max_right _ _)⟩
        · simp only [PyData.depthAll, PyData.shownAll]
          exact .cons ((k1.more fun b hb => List.mem_append_left _ hb).level_le (Nat.le_max_left _ _)) (k2.more_le (fun b hb => List.mem_append_right _ hb) (Nat.le_max_right _ _))
end
/-- repr of a list or tuple -/
theorem repr_K {prog : Program} {w : World} {A : Around} {E : Value → Shared → Prop} {s : Shared} {Q : Value → Shared → Prop} {a : Addr} {d : D} {T idr : String} (S : ShowsBy prog w s.heap a d T idr) (hg : A.guards = some []) (hu : A.units + (d.depth + 1) < cLine)
    (hQ : ∀ h' u tk, (∀ b o, s.heap.get? b = some o → h'.get? b = some o) → Q (.str d.shown u) { s with heap := h', toks := tk }) : wpAny (model prog w) A (call (.builtin "repr") [.ref a]) Q E s :=
  call_repr_slot (by omega) (S.typeIs s fun _ _ e => e) S.slotRepr (S.call A.in1 E s _ hg (by show A.units + 1 + d.depth < cLine; omega) (fun _ _ e => e) fun h' u tk hk => ⟨_, _, rfl, hQ h' u tk hk⟩)
theorem shows_list {prog : Program} {w : World} {h₀ : Heap} {a : Addr} {o : Obj} {vs : Array Value} {n : Nat} {xs : List D} {as bs : List Addr} (h1 : h₀.get? a = some o) (h2 : o.cls = .type "list") (h3 : o.data = .seq vs n) (h4 : ReadsAll h₀ vs.toList xs as)
    (hb : ReadAtMost h₀ (PyData.depthAll xs) bs) (hk : ReprAllK prog w bs h₀ (PyData.depthAll xs) vs.toList (PyData.shownAll xs)) (hsz : (PyData.list xs).shown.length ≤ sizeLine) : ShowsBy prog w h₀ a (.list xs) "list" "list.__repr__" := by
  have hz' : (listText (PyData.shownAll xs)).length ≤ sizeLine := by simpa only [PyData.shown] using hsz
  have hna : a ∉ bs := not_mem_of_deeper (.list h1 h2 h3 h4) (by simp only [PyData.depth]; omega) hb
  refine ⟨PySem.F.slot_list_repr.toG, PySem.F.slot_list_str, PySem.F.slot_list_format, fun s hk0 => ⟨o, hk0 _ _ h1, h2⟩, fun A E s Q hg hu hk0 hQ => ?_⟩
  simp only [PyData.depth] at hu
  simp only [PyData.shown] at hQ
  obtain ⟨l⟩ := vs
  cases l with
  | nil =>
    have h4' : ReadsAll h₀ [] xs _ := h4
    cases h4'
    simp only [PyData.shownAll, listText_nil] at hQ
    exact call_list_repr_empty ⟨o, hk0 _ _ h1, h2⟩ (hk0 _ _ h1) h3 (hQ s.heap _ _ fun _ _ e => e)
  | cons x l =>
    exact call_list_reprK h1 h2 h3 hna (by simpa using hk.length_eq) (fun i y e => hk.item i y (by simpa using e)) hg (fun b _ => Clear.nil b) hu hk0 hQ hz'
theorem shows_tuple {prog : Program} {w : World} {h₀ : Heap} {a : Addr} {o : Obj} {vs : Array Value} {n : Nat} {xs : List D} {as bs : List Addr} (h1 : h₀.get? a = some o) (h2 : o.cls = .type "tuple") (h3 : o.data = .seq vs n) (h4 : ReadsAll h₀ vs.toList xs as)
    (hb : ReadAtMost h₀ (PyData.depthAll xs) bs) (hk : ReprAllK prog w bs h₀ (PyData.depthAll xs) vs.toList (PyData.shownAll xs)) (hsz : (PyData.tuple xs).shown.length ≤ sizeLine) : ShowsBy prog w h₀ a (.tuple xs) "tuple" "tuple.__repr__" := by
  have hz' : (tupleText (PyData.shownAll xs)).length ≤ sizeLine := by simpa only [PyData.shown] using hsz
  have hna : a ∉ bs := not_mem_of_deeper (.tuple h1 h2 h3 h4) (by simp only [PyData.depth]; omega) hb
  refine ⟨PySem.F.slot_tuple_repr, PySem.F.slot_tuple_str, PySem.F.slot_tuple_format, fun s hk0 => ⟨o, hk0 _ _ h1, h2⟩, fun A E s Q hg hu hk0 hQ => ?_⟩
  simp only [PyData.depth] at hu
  simp only [PyData.shown] at hQ
  exact call_tuple_reprK h1 h2 h3 hna hk hg (fun b _ => Clear.nil b) hu hk0 hQ hz'

/-! ### repr -/
theorem cr_repD (hg : X.A.guards = some []) (hu : X.A.units + 200 < cLine) : CallR X (.builtin "repr") (rB repD) := by
  intro pins s σ H xs us Q I r ⟨W, ds, res, hw, hp, e, k⟩
  unfold repD at e
  split at e
  · cases e
    obtain ⟨x, rfl, a, rfl, hd⟩ := P1 hp
    cases r with
    | cons r1 r2 =>
      cases r2
      cases r1
      have emp : ObjOk X.prog X.w H s.heap a (.dT []) := by
        rcases hd with ⟨kvs, e1, k1, ra⟩ | ⟨kvs, e1, k1, ra⟩
        · have : kvs = [] := by simpa using k1
          subst this
          exact ObjOk.empty (I.hok a _ e1)
        · have : kvs = [] := by simpa using k1
          subst this
          exact I.hok a _ e1
      obtain ⟨_, ys, xs', q, o, es, ep, h1, h2, h3, h4, _⟩ := emp
      cases q
      have n : es = #[] := by
        have : es.toList = [] := by simpa using h4
        simpa using this
      subst n
      refine repr_of_reads' (d := .dict []) (Reads.dict h1 h2.1 h3 (by exact .nil) (by exact .nil)) rfl (fun _ hm => ?_) hg (by show X.A.units + (1 + 1) < cLine; omega) (fun _ _ e => e) (fun h' u tk hk => ?_) (by decide +kernel)
      · have hm : sysModules ∈ [a] := by simpa using hm
        simp at hm
        rw [hm] at ys
        simp at ys
      · exact ⟨.str _, H, I.kept (t' := tk) hk, ⟨u, rfl⟩, k _ _ (Res.same (.str _) rfl)⟩
  · rename_i d nd0
    split at e
    · rename_i ok
      cases e
      obtain ⟨h1, h2, h3, h4⟩ := ok
      obtain ⟨x, rfl, hx⟩ := P1 hp
      cases r with
      | cons r1 r2 =>
        cases r2
        have fin : ∀ (u : Tok) (h' : Heap) (tk : Nat), (∀ b o, s.heap.get? b = some o → h'.get? b = some o) → EP X pins σ Q (.str d.shown u) { s with heap := h', toks := tk } := fun u h' tk hk => ⟨.str _, H, I.kept (t' := tk) hk, ⟨u, rfl⟩, k _ _ (Res.same (.str _) rfl)⟩
        have h3 : d.shown.length ≤ sizeLine := by rw [sl_eq]; exact h3
        cases d with
        | none => obtain ⟨as, rd⟩ := hx.reads I rfl r1; cases rd; exact PySem.P.repr_of_none (fin _ _ _ fun _ _ e => e)
        | bool b => obtain ⟨as, rd⟩ := hx.reads I rfl r1; cases rd; exact PySem.P.repr_of_bool (fin _ _ _ fun _ _ e => e)
        | int i => obtain ⟨as, rd⟩ := hx.reads I rfl r1; cases rd; exact PySem.P.repr_of_int (by simpa [PyData.showable] using h1) (fin _ _ _ fun _ _ e => e)
        | str x => obtain ⟨as, rd⟩ := hx.reads I rfl r1; cases rd; exact PySem.P.repr_of_str (fin _ _ _ fun _ _ e => e) h3
        | list ds =>
          obtain ⟨a, xs, rfl, e, ra⟩ := hx
          cases r1
          obtain ⟨its, rv, ⟨o, n, e1, e2, _, e4⟩, _⟩ := I.list (SqL.of e)
          have hz' : (listText (PyData.shownAll ds)).length ≤ sizeLine := by simpa only [PyData.shown] using h3
          obtain ⟨as, bs, q, hb, hk⟩ := RA.showR I ds _ its (by simpa [dE] using h4) (by simpa [PyData.showable] using h1) (fun t ht => Nat.le_trans (listText_mem_le ht) hz') ra rv
          exact repr_K (shows_list e1 e2 e4 (by simpa using q) hb (by simpa using hk) h3) hg (by omega) fun h' u tk hk => fin u h' tk hk
        | tuple ds =>
          obtain ⟨a, xs, rfl, w, e, ra⟩ := hx.tup
          cases r1
          obtain ⟨its, rv, ⟨o, e1, e2, n, e4⟩, _⟩ := I.tuple (SqT.of e)
          have hz' : (tupleText (PyData.shownAll ds)).length ≤ sizeLine := by simpa only [PyData.shown] using h3
          obtain ⟨as, bs, q, hb, hk⟩ := RA.showR I ds _ its (by simpa [dE] using h4) (by simpa [PyData.showable] using h1) (fun t ht => Nat.le_trans (tupleText_mem_le ht) hz') ra rv
          exact repr_K (shows_tuple e1 e2 e4 (by simpa using q) hb (by simpa using hk) h3) hg (by omega) fun h' u tk hk => fin u h' tk hk
        | dict es =>
          have n0 : es = [] := by simpa [dE] using h4
          subst n0
          exact (nd0 rfl).elim
    · cases e
  · cases e
/-! ### isinstance -/
def tyD : D → String
  | .none => "NoneType"
  | .bool _ => "bool"
  | .int _ => "int"
  | .str _ => "str"
  | .list _ => "list"
  | .tuple _ => "tuple"
  | .dict _ => "dict"
def rIsiD (t : TF) : List V → Hp → VK → Prop := fun xs H Q => ∃ W x d, xs = [x, .ty t.name] ∧ RR W H x d ∧ Q (.bl (isiD d t)) H
theorem tyD_ok {K : PySem.W.Frag} {x : V} {d : D} (h : RR W H x d) : TyX K H x (.type (tyD d)) := by
  cases d with
  | none => cases (show R W H x .none from h); exact .base .non
  | bool b => obtain rfl := h.bl; exact .base (.bl b)
  | int b => obtain rfl := h.int; exact .base (.int b)
  | str b => obtain rfl := h.str; exact .base (.str b)
  | list ds => obtain ⟨a, xs, rfl, e, _⟩ := h; exact .base (.lst e)
  | tuple ds => obtain ⟨a, xs, rfl, _, e, _⟩ := h.tup; exact .base (.tup e)
  | dict es =>
    obtain ⟨a, rfl, ⟨kvs, e, _⟩ | ⟨kvs, e, _⟩⟩ := h
    · exact .base (.dK e)
    · exact .base (.dT e)
def isiS (n : String) (t : TF) : Bool := n == t.name || (n == "bool" && t.name == "int")
theorem kit_S : ∀ n ∈ ["NoneType", "bool", "int", "str", "list", "tuple", "dict"], ∀ t ∈ [TF.int, TF.bool, TF.str, TF.tuple, TF.list, TF.dict], kitB n t.name = some (isiS n t) := by decide +kernel
theorem kit_D (d : D) (t : TF) : kitB (tyD d) t.name = some (isiD d t) := by
  have h := kit_S (tyD d) (by cases d <;> simp [tyD]) t (by cases t <;> simp)
  rw [h]
  cases d <;> cases t <;> rfl
theorem cr_isiD (t : TF) : CallR X (.builtin "isinstance") (rIsiD t) := by
  intro pins s σ H xs us Q I r ⟨W, x, d, e, h, k⟩
  exact call_isi pins s σ H xs us Q I r ⟨x, .ty t.name, .type (tyD d), .type t.name, isiD d t, e, .ty _, tyD_ok h, kit_ty (kit_D d t), k⟩
end
end Ev
end

section
set_option Elab.async false
set_option linter.all false
set_option maxRecDepth 100000
/-! Ev7s: sorted(..) of a list or a tuple. -/
namespace Ev
open PySem PySem.Spec PySem.Calls PyProof.Rows PySem.W
section
variable {prog : Program} {w : World} {A : Around} {E : Value → Shared → Prop} {s : Shared}
/-- the items of a list or of a tuple, drawn into a new list -/
theorem drawn {l : Addr} {vs : List Value} {o : Obj} {n : Nat} {Q : List Value → Shared → Prop} (ho : s.heap.get? l = some o) (hc : o.cls = .type "list" ∨ o.cls = .type "tuple") (hd : o.data = .seq vs.toArray n)
    (h : Q vs { s with heap := (s.heap.push (seqObj "list" #[] 0)).update s.heap.objs.size (Obj.mapSeq (· ++ vs.toArray)) }) (hz : vs.length ≤ sizeLine) : wpAny (model prog w) A (collect (.ref l)) Q E s := by
  unfold collect
  refine wpAny_bind (wpAny_runValue (codeAny_builtin (show entryFor table "proto.collect" = some _ from entry_proto_collect') ?_))
  show wpAny _ _ (do again (.builtin "list.__iadd__" ⟨[← newList [], .ref l], []⟩)) _ _ s
  refine wpAny_bind (wpAny_newList (wpAny_pure ⟨Code.quiet_builtin _ (by decide +kernel), codeAny_builtin (show entryFor table "list.__iadd__" = some _ from entry_list_iadd') ?_⟩))
  show wpAny _ _ (Builtin.List.listExtendWith (.ref s.heap.objs.size) (.ref l) (.ref s.heap.objs.size)) _ _ { s with heap := s.heap.push (seqObj "list" #[] 0) }
  unfold Builtin.List.listExtendWith
  have hp : (s.heap.push (seqObj "list" #[] 0)).get? l = some o := Heap.get?_push_of_some _ ho
  have fin : wpAny (model prog w) A (do
      let o ← load s.heap.objs.size
      match o.data with
      | .seq xs _ => pure xs.toList
      | _ => unsupported "internal:collect") Q E { s with heap := (s.heap.push (seqObj "list" #[] 0)).update s.heap.objs.size (Obj.mapSeq (· ++ vs.toArray)) } := by
    refine wpAny_bind (wpAny_load (get?_update_seq (Heap.get?_push_size _ rfl) _) ?_)
    show wpAny _ _ (pure ((#[] : Array Value) ++ vs.toArray).toList) Q E _
    rw [show ((#[] : Array Value) ++ vs.toArray).toList = vs by simp]
    exact wpAny_pure h
  have len : ((#[] : Array Value) ++ vs.toArray).size ≤ sizeLine + 1 := by simp only [Array.size_append, List.size_toArray, List.length_nil]; omega
  rcases hc with hc | hc
  · refine wpAny_bind (wpAny_typeOf (T := "list") ⟨o, hp, hc⟩ ?_)
    rw [if_pos (by rw [show (Value.type "list" == Value.type "list") = true by rfl]; simp)]
    refine wpAny_bind (listItems_at hp hd (wpAny_bind (listItems_at (xs := #[]) (n := 0) (Heap.get?_push_size _ rfl) rfl ?_)))
    rw [if_neg (by simp)]
    exact wpAny_bind (listUpdate_at (xs := #[]) (n := 0) (Heap.get?_push_size _ rfl) rfl (wpAny_pure fin) (Nat.zero_le _) len)
  · refine wpAny_bind (wpAny_typeOf (T := "tuple") ⟨o, hp, hc⟩ ?_)
    rw [if_pos (by rw [show (Value.type "tuple" == Value.type "tuple") = true by rfl]; simp)]
    refine wpAny_bind (listItems_at hp hd (wpAny_bind (listItems_at (xs := #[]) (n := 0) (Heap.get?_push_size _ rfl) rfl ?_)))
    rw [if_neg (by simp)]
    exact wpAny_bind (listUpdate_at (xs := #[]) (n := 0) (Heap.get?_push_size _ rfl) rfl (wpAny_pure fin) (Nat.zero_le _) len)
/-- sorted(..) is list.sort() on a new list of the items -/
theorem sorted_by {l : Addr} {vs : List Value} {o : Obj} {n : Nat} {Q : Value → Shared → Prop} (ho : s.heap.get? l = some o) (hc : o.cls = .type "list" ∨ o.cls = .type "tuple") (hd : o.data = .seq vs.toArray n) (hz : vs.length ≤ sizeLine)
    (body : ∀ E' : Value → Shared → Prop, wpAny (model prog w) A.in1.in1 (Builtin.«list.sort» ⟨[.ref (s.heap.objs.size + 1)], []⟩) (fun f s' => f = .done (.ret .none) ∧ Q (.ref (s.heap.objs.size + 1)) s') E' { s with heap := copyHeap s.heap vs }) :
    wpAny (model prog w) A (call (.builtin "sorted") [.ref l] []) Q E s := by
  refine call_function_entry_kw kind_sorted plain_sorted entry_sorted (args_sorted1 _) ?_
  unfold Builtin.«sorted»
  refine wpAny_bind (m := checkCount "sorted" 1 1 _) (wpAny_pure (wpAny_bind (drawn ho hc hd (wpAny_bind (wpAny_newList ?_ hz)) hz)))
  have e1 : ((s.heap.push (seqObj "list" #[] 0)).update s.heap.objs.size (Obj.mapSeq (· ++ vs.toArray))).objs.size = s.heap.objs.size + 1 := by rw [Heap.size_update, size_push']
  show wpAny _ _ _ _ _ { s with heap := copyHeap s.heap vs }
  rw [e1]
  refine wpAny_bind (wpAny_holding (wpAny_call_entry_kw slot_list_sort ⟨_, copyHeap_at s.heap vs, rfl⟩ entry_list_sort ?_ (args_list_sort _)))
  refine wpAny_mono (body _) (fun f s' hf => ?_) fun _ _ e => e
  obtain ⟨rfl, hq⟩ := hf
  exact ⟨_, rfl, wpAny_pure ⟨_, rfl, hq⟩⟩
/-! ### tuples, the first of them empty -/
open PySem.SeqAt
theorem call_tuple_lt {l b : Addr} {items items2 : Array Value} {e r : Nat → Bool} {Q : Value → Shared → Prop} (hl : s.heap.IsTuple l items) (hb : s.heap.IsTuple b items2)
    (he : ∀ j (h1 : j < items.size) (h2 : j < items2.size), EqAt A.in1 s items[j] items2[j] (e j)) (hr : ∀ j (h1 : j < items.size) (h2 : j < items2.size), e j = false → RcLt A.in1 s items[j] items2[j] (r j))
    (h : Q (.bool (firstLt e r (decide (items.size < items2.size)) (List.range (min items.size items2.size)))) s) : wpAny (model prog w) A (call (.builtin "tuple.__lt__") [.ref l, .ref b]) Q E s := by
  obtain ⟨⟨cls, dd, data, sl⟩, ho, hc, n, hd⟩ := id hl
  obtain ⟨⟨cls2, dd2, data2, sl2⟩, ho2, hc2, n2, hd2⟩ := id hb
  simp only at hc hd hc2 hd2
  subst hc hd hc2 hd2
  exact call_meets PySem.F.slot_tuple_lt ⟨_, ho, rfl⟩ PySem.F.entry_tuple_lt (PySem.F.args_tuple_lt_2 _ _) (tuple_ltAt l b items items2 n n2 dd dd2 sl sl2 e r) ⟨ho, ho2, he, hr, h⟩
theorem oneLt_tup {xs ys : List PyData} {a b : Value} {as bs : List Addr} {Q : Bool → Shared → Prop} (ra : Reads s.heap a (.tuple xs) as) (rb : Reads s.heap b (.tuple ys) bs) (h : alike (.tuple xs) (.tuple ys) = true)
    (hu : A.units + min (PyData.tuple xs).depth (PyData.tuple ys).depth < cLine) (hq : Q (dataLt (.tuple xs) (.tuple ys)) s) : wpAny (model prog w) A (oneLt' true a b) Q E s := by
  have hal : alikeAll xs ys = true := by simpa [alike] using h
  cases ra with
  | @tuple l o vs n _ as₁ h1 h2 h3 h4 =>
    cases rb with
    | @tuple l' o' vs' n' _ bs₁ k1 k2 k3 k4 =>
      have n1 : vs.size = xs.length := by simpa using SeqAt.ReadsAll.length _ _ _ h4
      have n2 : vs'.size = ys.length := by simpa using SeqAt.ReadsAll.length _ _ _ k4
      rw [dataLt_tuple, ← firstLt_toks xs ys hal, ← n1, ← n2] at hq
      rw [oneLt'_eq]
      simp only [if_true]
      refine wpAny_bind (wpAny_cRoomFor (SeqAt.room_here hu) ?_)
      refine wpAny_bind (wpAny_callSpecialIfBound?_slot (T := "tuple") ⟨_, h1, h2⟩ PySem.F.slot_tuple_lt (call_tuple_lt (e := pairEq xs ys) (r := fun j => dataLt (xs.getD j .none) (ys.getD j .none)) ⟨_, h1, h2, _, h3⟩ ⟨_, k1, k2, _, k3⟩ (fun j j1 j2 => ?_) (fun j j1 j2 hj => ?_) ?_))
      · have := eqAt_alikeAll xs ys A.in1 s vs.toList vs'.toList _ _ h4 k4 hal (SeqAt.room_in hu) j (by simpa using j1) (by simpa using j2)
        simpa using this
      · have := rcLt_alikeAll xs ys A.in1 s vs.toList vs'.toList _ _ h4 k4 hal (SeqAt.room_in hu) j (by simpa using j1) (by simpa using j2) hj
        simpa using this
      · exact wpAny_truthy_bool hq
theorem mapM_any {α γ : Type} {M : Model} {f : α → Sem γ} : ∀ (l : List α) {Q : List γ → Shared → Prop}, (∀ v ∈ l, ∃ r, ∀ (Q' : γ → Shared → Prop), Q' r s → wpAny M A (f v) Q' E s) → (∀ rs : List γ, rs.length = l.length → Q rs s) → wpAny M A (l.mapM f) Q E s
  | [], _, _, h => by rw [List.mapM_nil]; exact wpAny_pure (h [] rfl)
  | x :: l, Q, hf, h => by
    rw [List.mapM_cons]
    obtain ⟨r, hr⟩ := hf x (.head _)
    exact wpAny_bind (hr _ (wpAny_bind (mapM_any l (Q := fun bs s' => wpAny M A (pure (r :: bs)) Q E s') (fun v hv => hf v (.tail _ hv)) fun rs hl => wpAny_pure (h (r :: rs) (by simp [hl])))))
/-- all tuples, the first one is () -/
def Empt (ds : List PyData) : Prop := ds.head? = some (.tuple []) ∧ ∀ d ∈ ds, ∃ xs, d = .tuple xs
theorem first_of {v : Value} {xs : List PyData} {as : List Addr} (r : Reads s.heap v (.tuple xs) as) : ∃ o : Option Value, (xs = [] → o = none) ∧ ∀ (Q' : Option Value → Shared → Prop), Q' o s → wpAny (model prog w) A (firstOfTuple' v) Q' E s := by
  cases r with
  | @tuple l o vs n _ as₁ h1 h2 h3 h4 =>
    refine ⟨vs[0]?, fun e => ?_, fun Q' hq => ?_⟩
    · subst e
      have : vs.size = 0 := by simpa using SeqAt.ReadsAll.length _ _ _ h4
      simp [this]
    · rw [kas_first_eq]
      refine wpAny_bind (wpAny_typeOf (T := "tuple") ⟨_, h1, h2⟩ ?_)
      rw [if_neg (by decide)]
      exact wpAny_bind (listItems_at h1 h3 (wpAny_pure hq))
theorem sortsAt_empt {vs : List Value} {ds : List PyData} (e : EachIs (fun v d => ∃ as, Reads s.heap v d as) vs ds) (hal : AllAlike ds) (hk : Empt ds) (hu : ∀ d, d ∈ ds → A.units + d.depth < cLine) : SortsAt prog w A s (dataKind s.heap ds) vs := by
  have room : ∀ {d d' : PyData}, d ∈ ds → A.units + min d.depth d'.depth < cLine := fun {d d'} hd => Nat.lt_of_le_of_lt (Nat.add_le_add_left (Nat.min_le_left _ _) _) (hu d hd)
  refine ⟨fun v hv => ?_, oneType', ?_, fun h2 E Q hq => ?_⟩
  · obtain ⟨d, hd, as, r⟩ := e.left v hv
    exact ⟨_, dataKind_some hal hd r⟩
  · intro E x y a b Q ha hb hq
    obtain ⟨d, as, hd, ra, rfl⟩ := dataKind_inv ha
    obtain ⟨d', as', hd', rb, rfl⟩ := dataKind_inv hb
    obtain ⟨xs, rfl⟩ := hk.2 d hd
    obtain ⟨ys, rfl⟩ := hk.2 d' hd'
    rw [keyLt'_oneType]
    exact oneLt_tup ra rb (hal _ hd _ hd') (room hd) hq
  · cases e with
    | nil => simp at h2
    | @cons v₁ d₁ vs ds r t =>
      obtain ⟨k1, k2⟩ := hk
      simp at k1
      subst k1
      obtain ⟨as1, r1⟩ := r
      rw [keyKind'_eq, List.mapM_toArray, map_eq_pure_bind]
      obtain ⟨o, ho, hr⟩ := first_of (prog := prog) (w := w) (A := A) (E := E) r1
      obtain rfl := ho rfl
      refine wpAny_bind (wpAny_bind ?_)
      rw [List.mapM_cons]
      refine wpAny_bind (hr _ (wpAny_bind (mapM_any vs (fun v hv => ?_) fun rs hl => wpAny_pure (wpAny_pure ?_))))
      · obtain ⟨d, hd, as, rd⟩ := t.left v hv
        obtain ⟨xs, rfl⟩ := k2 d (List.mem_cons_of_mem _ hd)
        obtain ⟨o, _, hr⟩ := first_of (prog := prog) (w := w) (A := A) (E := E) rd
        exact ⟨o, hr⟩
      · rw [if_neg (by simp), if_neg (by simp)]
        rw [oneTypeOnly'_eq, List.mapM_toArray, map_eq_pure_bind]
        have hT : ∀ v ∈ v₁ :: vs, Looks (model prog w) s.heap (typeOf v) (Value.type "tuple") := fun v hv => by
          rcases List.mem_cons.mp hv with rfl | hv
          · exact looks_reads r1
          · obtain ⟨d, hd, as, rd⟩ := t.left v hv
            obtain ⟨xs, rfl⟩ := k2 d (List.mem_cons_of_mem _ hd)
            exact looks_reads rd
        refine wpAny_bind (wpAny_bind (wpAny_bind (kas_mapM (r := Value.type "tuple") _ (fun v hv Q' hq => (hT v hv).here hq) (wpAny_pure ?_))))
        have hall : ((List.map (fun _ => Value.type "tuple") (v₁ :: vs)).toArray.all fun x => x == Value.type "tuple") = true := by
          simp only [List.all_toArray, List.all_map, List.all_eq_true]
          intro _ _
          rfl
        have h0 : (List.map (fun _ => Value.type "tuple") (v₁ :: vs)).toArray[0]? = some (Value.type "tuple") := by simp
        rw [h0]
        simp only [hall, if_true]
        exact wpAny_pure (wpAny_pure hq)
theorem sortsAt_2 {vs : List Value} {ds : List PyData} (e : EachIs (fun v d => ∃ as, Reads s.heap v d as) vs ds) (hal : AllAlike ds) (hk : Sortable ds ∨ Empt ds) (hu : ∀ d, d ∈ ds → A.units + d.depth < cLine) : SortsAt prog w A s (dataKind s.heap ds) vs :=
  hk.elim (fun h => SortsAt.data e hal h hu) fun h => sortsAt_empt e hal h hu
variable {β : Type} {enc : β → PyData} {vs : List Value} {bs : List β} {R : Value → β → Prop}
theorem sorted_by_data {l : Addr} {o : Obj} {n : Nat} {Q : Value → Shared → Prop} (ho : s.heap.get? l = some o) (hc : o.cls = .type "list" ∨ o.cls = .type "tuple") (hd : o.data = .seq vs.toArray n) (e : EachIs R vs bs) (er : EachIs (fun v b => ∃ as, Reads s.heap v (enc b) as) vs bs)
    (hal : AllAlike (bs.map enc)) (hk : Sortable (bs.map enc) ∨ Empt (bs.map enc)) (hL : bs.length ≤ sizeLine) (hu : ∀ b, b ∈ bs → A.units + 2 + (enc b).depth < cLine)
    (h : ∀ out, out.length = bs.length → EachIs R out (bs.mergeSort (dataLe false enc)) → Q (.ref (s.heap.objs.size + 1)) { s with heap := sortedAll s.heap vs (List.toArray out) }) :
    wpAny (model prog w) A (call (.builtin "sorted") [.ref l] []) Q E s := by
  have hz : vs.length ≤ sizeLine := by rw [e.length]; exact hL
  have er' : EachIs (fun v b => ∃ as, Reads (sortingHeap (copyHeap s.heap vs) (s.heap.objs.size + 1) vs) v (enc b) as) vs bs := er.mono fun _ _ ⟨as, r⟩ => ⟨as, PyProof.Rows.Reads.keeps (fun _ _ => sorting_copy_old) r⟩
  exact sorted_by ho hc hd hz fun E' => list_sort_vals (s := { s with heap := copyHeap s.heap vs }) (copyHeap_at s.heap vs) (sortsAt_2 (s := { s with heap := sortingHeap (copyHeap s.heap vs) (s.heap.objs.size + 1) vs }) (each_map (R := fun v d => ∃ as, Reads (sortingHeap (copyHeap s.heap vs) (s.heap.objs.size + 1) vs) v d as) enc er') hal hk (bound_map hu)) hz
    ⟨rfl, h _ (by rw [sortVals_length false rfl]; exact e.length) (sortVals_data false e er' hal)⟩
end
open L2
section
variable {X : Cx} {W : Addr → Prop} {H : Hp}
theorem each_pairs {G : V → PyData → Prop} : ∀ {ys : List V} {ds : List PyData} {us : List Value}, RA W H ys ds → Vals ys us → EachIs (fun u (b : V × PyData) => RelV b.1 u) us (ys.zip ds) ∧ (∀ p ∈ ys.zip ds, R W H p.1 p.2) ∧ (ys.zip ds).map Prod.snd = ds ∧ (ys.zip ds).map Prod.fst = ys
  | _, _, _, .nil, .nil => ⟨.nil, fun p h => by simp at h, rfl, rfl⟩
  | _, _, _, .cons a r, .cons b q => by
    obtain ⟨h1, h2, h3, h4⟩ := each_pairs (G := G) r q
    exact ⟨.cons b h1, fun p hp => by
      rcases List.mem_cons.mp hp with rfl | hp
      · exact a
      · exact h2 p hp, by simp [h3], by simp [h4]⟩
theorem each_vals : ∀ {us : List Value} {bs : List (V × PyData)}, EachIs (fun u (b : V × PyData) => RelV b.1 u) us bs → Vals (bs.map Prod.fst) us
  | _, _, .nil => .nil
  | _, _, .cons a r => .cons a (each_vals r)
theorem ra_of : ∀ {bs : List (V × PyData)}, (∀ p ∈ bs, R W H p.1 p.2) → RA W H (bs.map Prod.fst) (bs.map Prod.snd)
  | [], _ => .nil
  | p :: bs, h => .cons (h p List.mem_cons_self) (ra_of fun q hq => h q (List.mem_cons_of_mem _ hq))
theorem each_reads {s : Shared} {pins : List (Addr × Obj)} {σ : L2.St} (I : Inv X pins σ H s) : ∀ {us : List Value} {bs : List (V × PyData)}, EachIs (fun u (b : V × PyData) => RelV b.1 u) us bs → (∀ p ∈ bs, R W H p.1 p.2) → (∀ p ∈ bs, p.2.hasDict = false) → EachIs (fun v (b : V × PyData) => ∃ as, Reads s.heap v b.2 as) us bs
  | _, _, .nil, _, _ => .nil
  | _, _, .cons (b := b) a r, h, g => .cons (R.reads I b.2 b.1 _ (g _ List.mem_cons_self) (h _ List.mem_cons_self) a) (each_reads I r (fun p hp => h p (List.mem_cons_of_mem _ hp)) fun p hp => g p (List.mem_cons_of_mem _ hp))
theorem sortable_of {ds : List PyData} (h : (ds.all tupNe || ds.all notTup || emptF ds) = true) : PySem.W.Sortable ds ∨ Empt ds := by
  rcases (Bool.or_eq_true_iff.mp h).symm with h | h
  · right
    unfold emptF at h
    split at h
    · rename_i r
      refine ⟨rfl, fun d hd => ?_⟩
      rcases List.mem_cons.mp hd with rfl | hd
      · exact ⟨_, rfl⟩
      · have := List.all_eq_true.mp h d hd
        unfold isTup at this
        split at this
        · exact ⟨_, rfl⟩
        · cases this
    · cases h
  left
  rcases Bool.or_eq_true_iff.mp h with h | h
  · refine .inl fun d hd => ?_
    have := List.all_eq_true.mp h d hd
    unfold tupNe at this
    split at this
    · exact ⟨_, _, rfl⟩
    · cases this
  · refine .inr fun d hd => ?_
    have := List.all_eq_true.mp h d hd
    exact ⟨fun e => (by rw [e] at this; cases this), fun xs e => (by rw [e] at this; cases this)⟩
theorem srt_pairs {bs : List (V × PyData)} : (bs.mergeSort (dataLe false Prod.snd)).map Prod.snd = srt (bs.map Prod.snd) := by
  unfold srt
  exact List.map_mergeSort fun a _ b _ => rfl
theorem sorted_go {pins : List (Addr × Obj)} {s : Shared} {σ : L2.St} {Q : VK} {a : Addr} {o : Obj} {n : Nat} {ys : List V} {ds : List PyData} {its : List Value} (hu : X.A.units + 200 < cLine) (I : Inv X pins σ H s) (ho : s.heap.get? a = some o) (hc : o.cls = .type "list" ∨ o.cls = .type "tuple") (hd : o.data = .seq its.toArray n)
    (rv : Vals ys its) (ra : RA W H ys ds) (hs : sortOk ds = true) (k : ∀ p zs, H p = none → RA W H zs (srt ds) → Q (.ref p) (upd H p (.lst zs))) : wpAny (model X.prog X.w) X.A (call (.builtin "sorted") [.ref a] []) (EP X pins σ Q) X.xe s := by
  obtain ⟨e1, e2, e3, e4⟩ := each_pairs (G := fun _ _ => True) ra rv
  simp only [sortOk, Bool.and_eq_true, List.all_eq_true, decide_eq_true_eq, Bool.not_eq_true'] at hs
  obtain ⟨⟨⟨s1, s2⟩, s3⟩, s4⟩ := hs
  have mem : ∀ p ∈ ys.zip ds, p.2 ∈ ds := fun p hp => by rw [← e3]; exact List.mem_map_of_mem hp
  have hl : (ys.zip ds).length = ds.length := by rw [← List.length_map (f := Prod.snd), e3]
  refine sorted_by_data (enc := Prod.snd) ho hc hd e1 (each_reads I e1 e2 fun p hp => (s4 _ (mem p hp)).2) (by rw [e3]; exact s1) (by rw [e3]; exact sortable_of (by simpa only [Bool.or_eq_true, List.all_eq_true] using s2)) (by rw [hl]; exact s3) (fun b hb => by
    have := (s4 _ (mem b hb)).1
    omega) fun out h1 h2 => ?_
  obtain ⟨ep, he⟩ := sortedAll_at s.heap its out.toArray
  have rv2 := each_vals h2
  have len : (((ys.zip ds).mergeSort (dataLe false Prod.snd)).map Prod.fst).length ≤ sizeLine := by
    rw [List.length_map, List.length_mergeSort, hl]; exact s3
  have ra2 : RA W H (((ys.zip ds).mergeSort (dataLe false Prod.snd)).map Prod.fst) (srt ds) := by
    have := ra_of (W := W) (H := H) (bs := (ys.zip ds).mergeSort (dataLe false Prod.snd)) fun p hp => e2 p (List.mem_mergeSort.mp hp)
    rwa [srt_pairs, e3] at this
  exact ⟨.ref _, upd H (s.heap.objs.size + 1) (.lst _), I.laid (t' := s.toks) (fun _ _ => sortedAll_old) (Nat.le_succ _) ⟨len, out, ep, rv2, he⟩, rfl, k _ _ (I.hok.fresh (Nat.le_succ _)) ra2⟩
theorem cr_sortD (hu : X.A.units + 200 < cLine) : CallR X (.builtin "sorted") (rB sortD) := by
  intro pins s σ H xs us Q I r ⟨W, ds, res, hw, hp, e, k⟩
  unfold sortD at e
  split at e
  · split at e
    · rename_i ds hs
      cases e
      obtain ⟨x, rfl, a, ys, rfl, e1, ra⟩ := P1 hp
      obtain ⟨its, rv, pl, hz⟩ := I.list (SqL.of e1)
      obtain ⟨o, n, g1, g2, g3, g4⟩ := pl
      rw [Vals.ref1 r]
      exact sorted_go hu I g1 (.inl g2) g4 rv ra hs fun p zs h1 h2 => k _ _ (h2.newL h1)
    · cases e
  · split at e
    · rename_i ds hs
      cases e
      obtain ⟨x, rfl, h1⟩ := P1 hp
      obtain ⟨a, ys, rfl, w, e1, ra⟩ := h1.tup
      obtain ⟨its, rv, pl, hz⟩ := I.tuple (SqT.of e1)
      obtain ⟨o, g1, g2, n, g4⟩ := pl
      rw [Vals.ref1 r]
      exact sorted_go hu I g1 (.inr g2) g4 rv ra hs fun p zs h1 h2 => k _ _ (h2.newL h1)
    · cases e
  · cases e
end
end Ev
end

section
set_option Elab.async false
set_option linter.all false
set_option maxRecDepth 100000
/-! Ev7d: dict(..) of pairs, sorted(..) of a dict. -/
namespace Ev
open PySem PySem.Spec PyProof.Rows L2
section
variable {W : Addr → Prop} {H : Hp}
theorem look_any {κ : Type} [DecidableEq κ] (f : κ → PyData) (hf : ∀ a b, keyEq (f a) (f b) = decide (a = b)) (k : κ) : ∀ {kvs : List (κ × V)} {es : List (PyData × PyData)}, kvs.map (fun p => f p.1) = es.map (·.1) → (lookD (f k) es).isSome = kvs.any fun kv => decide (kv.1 = k)
  | [], [], _ => rfl
  | [], _ :: _, h => by simp at h
  | _ :: _, [], h => by simp at h
  | p :: kvs, (k', d) :: es, h => by
    simp only [List.map_cons, List.cons.injEq] at h
    unfold lookD
    rw [← h.1, hf, List.any_cons]
    by_cases e : p.1 = k
    · simp [e]
    · simp [e, look_any f hf k h.2]
theorem map_gen {κ : Type} [DecidableEq κ] (f : κ → PyData) (hf : ∀ a b, keyEq (f a) (f b) = decide (a = b)) {k : κ} {x : V} {d : PyData} (rx : R W H x d) : ∀ {kvs : List (κ × V)} {es : List (PyData × PyData)}, kvs.map (fun p => f p.1) = es.map (·.1) → RA W H (kvs.map (·.2)) (es.map (·.2)) →
    (kvs.map fun kv => if kv.1 = k then (kv.1, x) else kv).map (fun p => f p.1) = (es.map fun p => if keyEq p.1 (f k) then (p.1, d) else p).map (·.1) ∧ RA W H ((kvs.map fun kv => if kv.1 = k then (kv.1, x) else kv).map (·.2)) ((es.map fun p => if keyEq p.1 (f k) then (p.1, d) else p).map (·.2))
  | [], [], _, _ => ⟨rfl, .nil⟩
  | [], _ :: _, h, _ => by simp at h
  | _ :: _, [], h, _ => by simp at h
  | p :: kvs, (k', d') :: es, h, r => by
    simp only [List.map_cons, List.cons.injEq] at h
    cases r with
    | cons a b =>
      obtain ⟨h1, h2⟩ := map_gen f hf rx h.2 b
      have hk : keyEq k' (f k) = decide (p.1 = k) := by rw [← h.1, hf]
      by_cases e : p.1 = k
      · simp only [List.map_cons, hk, e, decide_true, if_true]
        refine ⟨by rw [h1, ← h.1, e], .cons rx h2⟩
      · simp only [List.map_cons, hk, e, decide_false, if_false, Bool.false_eq_true]
        exact ⟨by rw [h1, h.1], .cons a h2⟩
theorem put_gen {κ : Type} [DecidableEq κ] (f : κ → PyData) (hf : ∀ a b, keyEq (f a) (f b) = decide (a = b)) {k : κ} {x : V} {d : PyData} {kvs : List (κ × V)} {es : List (PyData × PyData)} (rx : R W H x d) (h : kvs.map (fun p => f p.1) = es.map (·.1)) (r : RA W H (kvs.map (·.2)) (es.map (·.2))) :
    (putK kvs k x).map (fun p => f p.1) = (putD (f k) d es).map (·.1) ∧ RA W H ((putK kvs k x).map (·.2)) ((putD (f k) d es).map (·.2)) := by
  unfold putK putD
  rw [look_any f hf k h]
  by_cases e : (kvs.any fun kv => decide (kv.1 = k)) = true
  · rw [if_pos e, if_pos e]
    exact map_gen f hf rx h r
  · rw [if_neg e, if_neg e]
    simp only [List.map_append, List.map_cons, List.map_nil]
    exact ⟨by rw [h], r.app (.cons rx .nil)⟩
/-- pairs, read -/
theorem pairs_back {K : PySem.W.Frag} : ∀ {ds : List D} {ys : List V} {ps : List (Int × D)}, RA W H ys ds → pairK ds = some ps → ∃ (as : List Addr) (kvs : List (Key × V)), ys = as.map V.ref ∧ Paired (fun p kv => SqT K H p [kV kv.1, kv.2]) as kvs ∧
    kvs.map (fun p => keyD p.1) = ps.map (fun p => PyData.int p.1) ∧ RA W H (kvs.map (·.2)) (ps.map (·.2))
  | [], _, ps, .nil, e => by
    cases e
    exact ⟨[], [], rfl, .nil, rfl, .nil⟩
  | d :: ds, _, ps, .cons (v := v) h1 h2, e => by
    unfold pairK at e
    split at e
    · rename_i e1; cases e1
    · rename_i k d' r e1
      cases e1
      obtain ⟨ps', e2, rfl⟩ := Option.map_eq_some_iff.mp e
      obtain ⟨as, kvs, a1, a2, a3, a4⟩ := pairs_back (K := K) h2 e2
      cases h1 with
      | tup w ha ra =>
      rename_i a xs
      cases ra with
      | cons r1 r2 =>
        cases r2 with
        | cons r3 r4 =>
          cases r4
          cases r1
          exact ⟨a :: as, (.inl k, _) :: kvs, by rw [a1]; rfl, .cons (SqT.of ha) a2, by rw [List.map_cons, a3]; rfl, .cons r3 a4⟩
    · cases e
theorem merge_ok : ∀ {more : List (Key × V)} {ps : List (Int × D)} {acc : List (Key × V)} {es : List (D × D)}, more.map (fun p => keyD p.1) = ps.map (fun p => PyData.int p.1) → RA W H (more.map (·.2)) (ps.map (·.2)) →
    acc.map (fun p => keyD p.1) = es.map (·.1) → RA W H (acc.map (·.2)) (es.map (·.2)) → (mergeK acc more).map (fun p => keyD p.1) = (mkD es ps).map (·.1) ∧ RA W H ((mergeK acc more).map (·.2)) ((mkD es ps).map (·.2))
  | [], [], acc, es, _, _, h1, h2 => ⟨h1, h2⟩
  | [], _ :: _, _, _, h, _, _, _ => by simp at h
  | _ :: _, [], _, _, h, _, _, _ => by simp at h
  | m :: more, p :: ps, acc, es, h, r, h1, h2 => by
    simp only [List.map_cons, List.cons.injEq] at h
    cases r with
    | cons r1 r2 =>
      obtain ⟨g1, g2⟩ := put_gen keyD keyEq_keyD (k := m.1) r1 h1 h2
      rw [h.1] at g1 g2
      have q := merge_ok (more := more) (ps := ps) (acc := putK acc m.1 m.2) (es := putD (.int p.1) p.2 es) h.2 r2 g1 g2
      exact q
end
theorem cr_dictD {X : Cx} (hc : X.calm = true) : CallR X (.type "dict") (rB dictP) := by
  intro pins s σ H xs us Q I r ⟨W, ds, res, hw, hp, e, k⟩
  unfold dictP at e
  split at e
  · rename_i ds
    obtain ⟨ps, e2, rfl⟩ := Option.map_eq_some_iff.mp e
    obtain ⟨x, rfl, a, ys, rfl, e1, ra⟩ := P1 hp
    obtain ⟨as, kvs, a1, a2, a3, a4⟩ := pairs_back (K := X.K) ra e2
    subst a1
    refine call_dictP hc pins s σ H _ us Q I r ⟨a, as, kvs, rfl, SqL.of e1, a2, fun p hp => k _ _ ?_⟩
    obtain ⟨g1, g2⟩ := merge_ok (acc := []) (es := []) a3 a4 rfl .nil
    refine ⟨Ext.upd hp, p, rfl, hp, .inl ⟨_, upd_same, g1, g2.pres fun a o w e => ⟨fun z => z.elim w (fun q => by subst q; rw [hp] at e; cases e), Ext.upd hp a o e⟩⟩⟩
  · cases e
theorem asc_unique : ∀ {l m : List Int}, l.Perm m → l.Pairwise (· ≤ ·) → m.Pairwise (· ≤ ·) → l = m
  | [], m, p, _, _ => (List.nil_perm.mp p).symm
  | a :: l, [], p, _, _ => absurd p.length_eq (by simp)
  | a :: l, b :: m, p, h1, h2 => by
    obtain ⟨q1, q2⟩ := List.pairwise_cons.mp h1
    obtain ⟨r1, r2⟩ := List.pairwise_cons.mp h2
    have e : a = b := by
      rcases List.mem_cons.mp (p.mem_iff.mp List.mem_cons_self) with e | e
      · exact e
      · rcases List.mem_cons.mp (p.mem_iff.mpr List.mem_cons_self) with e' | e'
        · exact e'.symm
        · have := r1 a e
          have := q1 b e'
          omega
    subst e
    rw [asc_unique (p.cons_inv) q2 r2]
theorem ascI_perm (l : List Int) : (ascI l).Perm l := List.mergeSort_perm _ _
theorem ascI_asc (l : List Int) : (ascI l).Pairwise (· ≤ ·) := by
  have := List.pairwise_mergeSort (le := fun a b : Int => decide (a ≤ b)) (fun a b c h1 h2 => by simp at *; omega) (fun a b => by simp; omega) l
  exact this.imp fun h => by simpa using h
theorem sorted_empty {X : Cx} (hcalm : X.calm = true) : CallR X (.builtin "sorted") (fun xs H Q => ∃ a, xs = [.ref a] ∧ H a = some (.dT []) ∧ ∀ p, H p = none → Q (.ref p) (upd H p (.lst []))) := by
  intro pins s σ H xs us Q I r q
  obtain ⟨a, rfl, ha, q⟩ := q
  rw [Vals.ref1 r]
  obtain ⟨_, lo, xs, rel, o, es, ep, h1, h2, h3, h4, _, _⟩ := dt_of I.hok ha
  cases rel
  have he : es = #[] := by
    have : es.toList = [] := by simpa using h4
    exact Array.toList_eq_nil_iff.mp this
  subst he
  have dd : s.heap.DictOf (mixKind X.prog X.w) a [] := ⟨o, #[], ep, h1, h2, h3, (by intro j hj; simp at hj), .nil, List.nodup_nil⟩
  obtain ⟨ep', hat⟩ := dd.dictAt
  refine Calls.call_function_entry PyProof.Rows.kind_sorted PyProof.Rows.plain_sorted PyProof.Rows.entry_sorted (PyProof.Rows.args_sorted1 _) ?_
  unfold Builtin.«sorted»
  refine wpAny_bind (m := checkCount "sorted" 1 1 _) (wpAny_pure ?_)
  refine wpAny_bind (PySem.W.kdu_collect (A := X.A.in1) (PySem.W.kdl_dict (knd := mixKind X.prog X.w) (kvs := []) (ep := ep') lo) (I.ok.hd hcalm) hat (Nat.zero_le _) fun h' tk acc hk hacc => ?_)
  have hal : acc = #[] := Array.size_eq_zero_iff.mp hacc.1
  subst hal
  have I1 : Inv X pins σ H { s with heap := h', toks := tk } := I.kept hk
  refine wpAny_bind (wpAny_newList ?_ (Nat.zero_le _))
  have hoL : (h'.push (seqObj "list" #[] 0)).get? h'.objs.size = some (seqObj "list" #[] 0) := Heap.get?_push_size _ rfl
  show wpAny _ _ _ _ _ { s with heap := h'.push (seqObj "list" #[] 0), toks := tk }
  refine wpAny_bind (wpAny_holding (wpAny_call_entry PyProof.Rows.slot_list_sort ⟨_, hoL, rfl⟩ PyProof.Rows.entry_list_sort
    (PyProof.Rows.list_sort_tree (s := { s with heap := h'.push (seqObj "list" #[] 0), toks := tk }) (vs := []) (ns := []) hoL .nil (by decide) fun out ys g1 g2 g3 => ⟨_, rfl, ?_⟩) (PyProof.Rows.args_list_sort _)))
  obtain ⟨e', he'⟩ := PyProof.Rows.sortedHeap_at (vs := []) (out := out) hoL
  obtain rfl := List.perm_nil.mp g2
  refine wpAny_pure ⟨_, rfl, .ref h'.objs.size, upd H h'.objs.size (.lst []), I1.laid (t' := tk) (fun b u e => ?_) (Nat.le_refl _)
    (show ObjOk X.prog X.w _ _ _ (.lst []) from ⟨Nat.zero_le _, out.toList, e', vals_of_ints g1, by rw [Array.toArray_toList]; exact he'⟩), rfl, q _ (I1.hok.fresh (Nat.le_refl _))⟩
  have hb : b < h'.objs.size := Heap.lt_size e
  rw [PyProof.Rows.sortedHeap_old (Nat.ne_of_lt hb) (by rw [size_push']; exact Nat.lt_succ_of_lt hb)]
  exact Heap.get?_push_of_some _ e
theorem keysI_map : ∀ {es : List (D × D)} {ks : List Int}, keysI es = some ks → es.map (·.1) = ks.map PyData.int
  | [], ks, e => by cases e; rfl
  | (d, v) :: es, ks, e => by
    unfold keysI at e
    split at e
    · rename_i e1; cases e1
    · rename_i k v' r e1
      cases e1
      obtain ⟨ks', e2, rfl⟩ := Option.map_eq_some_iff.mp e
      rw [List.map_cons, keysI_map e2]
      rfl
    · cases e
theorem keys_inl : ∀ {kvs : List (Key × V)} {ks : List Int}, kvs.map (fun p => keyD p.1) = ks.map PyData.int → kvs.map (·.1) = ks.map Sum.inl
  | [], [], _ => rfl
  | [], _ :: _, h => by simp at h
  | _ :: _, [], h => by simp at h
  | p :: kvs, k :: ks, h => by
    simp only [List.map_cons, List.cons.injEq] at h
    have : p.1 = .inl k := by
      cases e : p.1 with
      | inl i => have := h.1; rw [e] at this; cases this; rfl
      | inr x => have := h.1; rw [e] at this; cases this
    rw [List.map_cons, List.map_cons, keys_inl h.2, this]
theorem cr_sortD2 {X : Cx} (hc : X.calm = true) (hu : X.A.units + 200 < cLine) : CallR X (.builtin "sorted") (rB sortD2) := by
  intro pins s σ H xs us Q I r h
  obtain ⟨W, ds, res, hw, hp, e, k⟩ := h
  unfold sortD2 at e
  split at e
  · rename_i es
    split at e
    · rename_i ks hks
      split at e
      · rename_i h64
        cases e
        have hm := keysI_map hks
        obtain ⟨x, rfl, a, rfl, hd⟩ := P1 hp
        rcases hd with ⟨kvs, e1, k1, ra⟩ | ⟨kvs, e1, k1, ra⟩
        · refine call_sortedDI hc pins s σ H _ us Q I r ⟨a, kvs, ks, rfl, .inl e1, keys_inl (k1.trans hm), h64, fun ys p p1 p2 hp => k _ _ ?_⟩
          rw [asc_unique (p1.trans (ascI_perm ks).symm) p2 (ascI_asc ks)]
          exact (RA.ints _).newL hp
        · have hk0 : kvs = [] := by
            cases kvs with
            | nil => rfl
            | cons p kvs =>
              rw [hm] at k1
              cases ks with
              | nil => simp at k1
              | cons k' ks' => simp at k1
          subst hk0
          have hks0 : ks = [] := by
            rw [hm] at k1
            cases ks with
            | nil => rfl
            | cons k' ks' => simp at k1
          subst hks0
          refine sorted_empty hc pins s σ H _ us Q I r ⟨a, rfl, e1, fun p hp => k _ _ ?_⟩
          have : ascI [] = [] := List.perm_nil.mp (ascI_perm [])
          rw [this]
          exact (RA.ints (W := W) (H := H) []).newL hp
      · cases e
    · cases e
  · exact cr_sortD hu pins s σ H xs us Q I r ⟨W, ds, res, hw, hp, e, k⟩
theorem cr_lstD2 {X : Cx} (hc : X.calm = true) : CallR X (.type "list") (rB lstD2) := by
  intro pins s σ H xs us Q I r h
  obtain ⟨W, ds, res, hw, hp, e, k⟩ := h
  unfold lstD2 at e
  split at e
  · rename_i es
    split at e
    · rename_i k0 ks hks
      cases e
      have hm := keysI_map hks
      obtain ⟨x, rfl, a, rfl, hd⟩ := P1 hp
      rcases hd with ⟨kvs, e1, k1, ra⟩ | ⟨kvs, e1, k1, ra⟩
      · refine call_listD hc pins s σ H _ us Q I r ⟨a, kvs, rfl, .inl e1, fun p hp => k _ _ ?_⟩
        have hkv : (kvs.map fun kv => kV kv.1) = (k0 :: ks).map V.int := by
          have := keys_inl (k1.trans hm)
          rw [show (kvs.map fun kv => kV kv.1) = (kvs.map (·.1)).map kV by rw [List.map_map]; rfl, this, List.map_map]
          rfl
        rw [hkv]
        exact (RA.ints _).newL hp
      · rw [hm] at k1
        cases kvs with
        | nil => simp at k1
        | cons p kvs => simp at k1
    · cases e
  · exact cr_lstD pins s σ H xs us Q I r ⟨W, ds, res, hw, hp, e, k⟩
end Ev
end

section
set_option Elab.async false
set_option linter.all false
set_option maxRecDepth 100000
/-! Ev7q: sum(x, ()), x a tuple of tuples. -/
namespace Ev
open PySem PySem.Spec PyProof.Rows L2
open Sem (wp)

theorem args_sum2 (a b : Value) : argsOk "sum" ⟨[a, b], []⟩ := by unfold argsOk; kernel_rfl
theorem sub_tup_str : isSubtype (.type "tuple") (.type "str") = pure false := by rw [isSubtype_type]; kernel_rfl
theorem sub_tup_bytes : isSubtype (.type "tuple") (.type "bytes") = pure false := by rw [isSubtype_type]; kernel_rfl
theorem sub_tup_array : isSubtype (.type "tuple") (.type "bytearray") = pure false := by rw [isSubtype_type]; kernel_rfl
def allOf (ps : List (Addr × List Value)) : List Value := (ps.map Prod.snd).flatten
/-- where the sum of the first i parts lies: it is new, or the start, or the only part that has items -/
def Org (h0 : Heap) (t0 : Addr) (ps : List (Addr × List Value)) (i : Nat) (r : Addr) : Prop :=
  h0.objs.size ≤ r ∨ (r = t0 ∧ ∀ (j : Nat) (p : Addr × List Value), j < i → ps[j]? = some p → p.2 = []) ∨
    ∃ (j : Nat) (p : Addr × List Value), j < i ∧ ps[j]? = some p ∧ p.1 = r ∧ ∀ (j' : Nat) (p' : Addr × List Value), j' < i → j' ≠ j → ps[j']? = some p' → p'.2 = []
theorem allOf_take {ps : List (Addr × List Value)} {i : Nat} {p : Addr × List Value} (h : ps[i]? = some p) : allOf (ps.take (i + 1)) = allOf (ps.take i) ++ p.2 := by
  unfold allOf
  rw [List.take_add_one, h]
  simp
theorem allOf_nil {ps : List (Addr × List Value)} {i : Nat} (h : allOf (ps.take i) = []) : ∀ (j : Nat) (p : Addr × List Value), j < i → ps[j]? = some p → p.2 = [] := by
  intro j p hj hp
  unfold allOf at h
  rw [List.flatten_eq_nil_iff] at h
  refine h p.2 (List.mem_map.mpr ⟨p, ?_, rfl⟩)
  exact List.mem_of_getElem? (i := j) (by rw [List.getElem?_take, if_pos hj]; exact hp)
section
variable {prog : Program} {w : World} {A : Around} {R : Result → Shared → Prop} {n : Nat} {I : Addr} {fp wr : List Addr} {St : Nat → Heap → Prop} {P : Nat → Value → Prop}
/-- two tuples together: whichever has items, or a new one -/
theorem cat_two {s : Shared} {E : Value → Shared → Prop} {Q : Value → Shared → Prop} {a b : Addr} {vs ws : List Value} (ha : IsTup s.heap a vs.toArray) (hb : IsTup s.heap b ws.toArray) (hz : vs.length + ws.length ≤ sizeLine)
    (h1 : vs = [] → Q (.ref b) s) (h2 : ws = [] → Q (.ref a) s) (h3 : Q (.ref s.heap.objs.size) { s with heap := s.heap.push { cls := .type "tuple", data := .seq (vs ++ ws).toArray } }) : wpAny (model prog w) A (binaryOp .Add (.ref a) (.ref b)) Q E s := by
  by_cases hv : vs = []
  · subst hv
    exact cat_tup0 ha hb (h1 rfl)
  · exact HT.cat_tup ha hb hv h2 (fun _ => h3) hz
theorem sum_goes (W : Walks prog w A.in1 I fp wr n P St) {h0 : Heap} {t0 : Addr} {ps : List (Addr × List Value)} (hn : n = ps.length) (hP : ∀ i v, P i v → ∃ p, ps[i]? = some p ∧ v = .ref p.1)
    (h0p : ∀ p ∈ ps, IsTup h0 p.1 p.2.toArray) (room : (allOf ps).length ≤ sizeLine) (S : Addr) (hSf : S ∉ fp) (hS0 : h0.objs.size ≤ S) (hwr : ∀ b ∈ wr, h0.get? b = none) (hex : ∀ i h, St i h → ∀ b ∈ fp, ∃ o, h.get? b = some o) :
    ∀ (k i : Nat) (s : Shared) (r : Addr) (acc : List Value) (c : Nat), n - i = k → i ≤ n → St i s.heap → (∀ b o, h0.get? b = some o → s.heap.get? b = some o) →
    s.heap.get? S = some { cls := .type "list", dict := none, data := .seq #[.ref r] c, slots := #[] } → IsTup s.heap r acc.toArray → r ∉ wr → acc = allOf (ps.take i) → Org h0 t0 ps i r →
    (∀ h' tk r', (∀ b o, h0.get? b = some o → h'.get? b = some o) → IsTup h' r' (allOf ps).toArray → Org h0 t0 ps n r' → R (.ok (.ret (.ref r'))) { s with heap := h', toks := tk }) →
    codeAny (model prog w) A (.builtin "sum.loop" ⟨[.ref I, .ref S, rawInt 2, rawInt 0], []⟩) R s := by
  have hSw : S ∉ wr := fun z => hSf (W.sub _ z)
  have hSn : h0.get? S = none := by
    cases e : h0.get? S with
    | none => rfl
    | some o => exact absurd (Nat.lt_of_lt_of_le (Heap.lt_size e) hS0) (Nat.lt_irrefl _)
  intro k
  induction k with
  | zero =>
    intro i s r acc c hk hi hst keep hS hr hrw hacc org done
    obtain rfl : i = n := by omega
    apply codeAny_builtin F.entry_sum_loop
    rw [Around.under_plainId (A := A) F.plain_sum_loop _]
    change wpAny _ A.in1 (seqItems? (.ref S) >>= _) _ _ s
    apply wpAny_bind
    apply wpAny_seqItems hS rfl
    change wpAny _ A.in1 (tryCatch (pyNext (.ref I)) _ >>= _) _ _ s
    apply wpAny_bind
    apply wpAny_tryCatch
    apply W.done s _ _ hst
    intro h1 tk hk1
    apply wpAny_pure
    apply done h1 tk r (fun b o e => hk1 b o (fun z => by rw [hwr b z] at e; cases e) (keep b o e))
    · rw [hacc, hn, List.take_length] at hr
      obtain ⟨o, ho, rest⟩ := hr
      exact ⟨o, hk1 r o hrw ho, rest⟩
    · exact org
  | succ k ih =>
    intro i s r acc c hk hi hst keep hS hr hrw hacc org done
    have hlt : i < n := by omega
    apply codeAny_builtin F.entry_sum_loop
    rw [Around.under_plainId (A := A) F.plain_sum_loop _]
    change wpAny _ A.in1 (seqItems? (.ref S) >>= _) _ _ s
    apply wpAny_bind
    apply wpAny_seqItems hS rfl
    change wpAny _ A.in1 (tryCatch (pyNext (.ref I)) _ >>= _) _ _ s
    apply wpAny_bind
    apply wpAny_tryCatch
    apply W.item i s _ _ hlt hst
    intro v h1 tk hv hst1 hk1
    obtain ⟨p, hp, rfl⟩ := hP i v hv
    have keep1 : ∀ b o, h0.get? b = some o → h1.get? b = some o := fun b o e => hk1 b o (fun z => by rw [hwr b z] at e; cases e) (keep b o e)
    have hS1 := hk1 S _ hSw hS
    have hr1 : IsTup h1 r acc.toArray := let ⟨o, ho, rest⟩ := hr; ⟨o, hk1 r o hrw ho, rest⟩
    have hp1 : IsTup h1 p.1 p.2.toArray := let ⟨o, ho, rest⟩ := h0p p (List.mem_of_getElem? hp); ⟨o, keep1 _ o ho, rest⟩
    have hpw : p.1 ∉ wr := fun z => by
      obtain ⟨o, ho, _⟩ := h0p p (List.mem_of_getElem? hp)
      rw [hwr _ z] at ho; cases ho
    have hall := allOf_take hp
    have hsz : acc.length + p.2.length ≤ sizeLine := by
      have e1 : allOf ps = allOf (ps.take (i + 1)) ++ allOf (ps.drop (i + 1)) := by
        unfold allOf
        rw [← List.flatten_append, ← List.map_append, List.take_append_drop]
      have e2 := congrArg List.length e1
      rw [hall, ← hacc] at e2
      simp only [List.length_append] at e2
      omega
    have hgrow : h0.objs.size ≤ h1.objs.size := Nat.le_of_lt (Nat.lt_of_le_of_lt hS0 (Heap.lt_size hS1))
    change wpAny (model prog w) A.in1 ((holding [Value.ref p.1] (binaryOp .Add (.ref r) (.ref p.1))).attempt >>= _) _ _ _
    apply wpAny_bind
    apply wpAny_attempt
    apply wpAny_holding
    -- the sum r2 in a heap that goes on from h1
    have go : ∀ (h2 : Heap) (r2 : Addr), (∀ b o, h1.get? b = some o → h2.get? b = some o) → IsTup h2 r2 (acc ++ p.2).toArray → r2 ∉ wr → Org h0 t0 ps (i + 1) r2 →
        wpAny (model prog w) A.in1 (updateSeq S (fun _ => #[.ref r2]) >>= fun _ => letGo [.ref r, .ref p.1] >>= fun _ => updateSeq S (fun _ => #[.ref r2]) >>= fun _ => again (.builtin "sum.loop" ⟨[.ref I, .ref S, rawInt 2, rawInt 0], []⟩))
          (fun fin s'' => match fin with | .done f => R (.ok f) s'' | .again c' => c'.quiet = true ∧ codeAny (model prog w) A c' R s'') (fun e s'' => R (.error e) s'') { s with heap := h2, toks := tk } := by
      intro h2 r2 k2 ht2 hw2 org2
      have hS2 := k2 S _ hS1
      apply wpAny_bind
      apply wpAny_updateSeq hS2 rfl
      apply wpAny_bind
      apply wpAny_letGo
      apply wpAny_bind
      have hS3 := Heap.get?_update_self (Obj.mapSeq fun _ => #[Value.ref r2]) hS2 rfl
      apply wpAny_updateSeq hS3 rfl
      apply wpAny_pure
      have other : ∀ b o, b ≠ S → h2.get? b = some o → ((h2.update S (Obj.mapSeq fun _ => #[Value.ref r2])).update S (Obj.mapSeq fun _ => #[Value.ref r2])).get? b = some o := fun b o hb e =>
        (Heap.get?_update_other _ _ (Ne.symm hb)).trans ((Heap.get?_update_other _ _ (Ne.symm hb)).trans e)
      refine ⟨plainId_quiet F.plain_sum_loop _, ih (i + 1) _ r2 (acc ++ p.2) _ (by omega) hlt (W.frame _ _ _ hst1 fun b hb o e => other b o (fun z => hSf (by rw [← z]; exact hb)) (k2 b o e)) (fun b o e => other b o (fun z => by rw [z, hSn] at e; cases e) (k2 b o (keep1 b o e))) (Heap.get?_update_self _ hS3 rfl) ?_ hw2 (by rw [hall, hacc]) org2 fun h' tk' r' => done h' tk' r'⟩
      obtain ⟨o, ho, hc, m, hd⟩ := ht2
      refine ⟨o, other r2 o (fun z => ?_) ho, hc, m, hd⟩
      rw [z, hS2] at ho
      cases ho
      exact absurd (Value.type.inj hc) (by decide)
    refine cat_two (s := { s with heap := h1, toks := tk }) hr1 hp1 hsz (fun e => ?_) (fun e => ?_) ?_
    · refine go h1 p.1 (fun b o e => e) (by rw [e]; exact hp1) hpw (.inr (.inr ⟨i, p, by omega, hp, rfl, fun j' p' hj hne hp' => ?_⟩))
      exact allOf_nil (hacc.symm.trans e) j' p' (by omega) hp'
    · refine go h1 r (fun b o e => e) (by rw [e, List.append_nil]; exact hr1) hrw ?_
      rcases org with o1 | ⟨o1, o2⟩ | ⟨j, q, o1, o2, o3, o4⟩
      · exact .inl o1
      · refine .inr (.inl ⟨o1, fun j' p' hj hp' => ?_⟩)
        by_cases hji : j' = i
        · subst hji; rw [hp] at hp'; cases hp'; exact e
        · exact o2 j' p' (by omega) hp'
      · refine .inr (.inr ⟨j, q, by omega, o2, o3, fun j' p' hj hne hp' => ?_⟩)
        by_cases hji : j' = i
        · subst hji; rw [hp] at hp'; cases hp'; exact e
        · exact o4 j' p' (by omega) hne hp'
    · refine go _ h1.objs.size (fun b o e => Heap.get?_push_of_some _ e) (IsTup.new _ _) (fun z => ?_) (.inl hgrow)
      obtain ⟨o, ho⟩ := hex _ _ hst1 _ (W.sub _ z)
      exact Nat.lt_irrefl _ (Heap.lt_size ho)
theorem call_sum2 {E : Value → Shared → Prop} {s : Shared} {x t0 : Addr} {ps : List (Addr × List Value)} {Q : Value → Shared → Prop} (hh : A.handled = none) (hx : s.heap.IsTuple x (ps.map fun p => Value.ref p.1).toArray) (h0p : ∀ p ∈ ps, IsTup s.heap p.1 p.2.toArray)
    (ht0 : IsTup s.heap t0 ([] : List Value).toArray) (room : (allOf ps).length ≤ sizeLine)
    (done : ∀ h' tk r', (∀ b o, s.heap.get? b = some o → h'.get? b = some o) → IsTup h' r' (allOf ps).toArray → Org s.heap t0 ps ps.length r' → Q (.ref r') { s with heap := h', toks := tk }) :
    wpAny (model prog w) A (call (.builtin "sum") [.ref x, .ref t0]) Q E s := by
  apply call_function_tree F.kind_sum F.plain_sum F.entry_sum (args_sum2 _ _)
  unfold Builtin.«sum»
  simp only [List.length_nil, List.length_cons]
  rw [if_neg (by decide)]
  apply wpAny_bind
  apply wpAny_of_eq (show Builtin.Builtins.bindParams "sum" ["start"] 0 ⟨[Value.ref t0], []⟩ = pure [some (Value.ref t0)] from rfl)
  apply wpAny_bind
  apply wpAny_pyIter_tuple hx
  obtain ⟨o0, ho0, hc0, m0, hd0⟩ := id ht0
  have pushed : ∀ (ob : Obj) b o, s.heap.get? b = some o → (s.heap.push ob).get? b = some o := fun ob b o e => Heap.get?_push_of_some _ e
  apply wpAny_bind
  apply wpAny_pure
  simp only [List.forIn_nil, List.forIn_cons]
  have ty : ∀ ob : Obj, ({ s with heap := s.heap.push ob } : Shared).TypeIs (.ref t0) "tuple" := fun ob => ⟨o0, pushed ob _ _ ho0, hc0⟩
  refine wpAny_bind (wpAny_bind (wpAny_bind (wpAny_isInstance (T := "tuple") (b := false) (ty _) sub_tup_str ?_)))
  simp only [if_false, Bool.false_eq_true]
  refine wpAny_pure (wpAny_bind (wpAny_bind (wpAny_isInstance (T := "tuple") (b := false) (ty _) sub_tup_bytes ?_)))
  simp only [if_false, Bool.false_eq_true]
  refine wpAny_pure (wpAny_bind (wpAny_bind (wpAny_isInstance (T := "tuple") (b := false) (ty _) sub_tup_array ?_)))
  simp only [if_false, Bool.false_eq_true]
  apply wpAny_pure
  apply wpAny_pure
  apply wpAny_bind
  refine wpAny_newObj_type ?_
  apply wpAny_pure
  obtain ⟨ox, hox, _⟩ := id hx
  have hne : x ≠ s.heap.objs.size := Nat.ne_of_lt (Heap.lt_size hox)
  generalize hs1 : s.heap.push { cls := .type "tuple_iterator", data := .fields #[.ref x, .int 0 0] } = h1
  have g1 : ∀ b o, s.heap.get? b = some o → h1.get? b = some o := fun b o e => by rw [← hs1]; exact Heap.get?_push_of_some _ e
  have hI : h1.get? s.heap.objs.size = some { cls := .type "tuple_iterator", data := .fields #[.ref x, .int 0 0] } := by rw [← hs1]; exact Heap.get?_push_size _ rfl
  have hlt1 : s.heap.objs.size < h1.objs.size := Heap.lt_size hI
  have W := Walks.tuple (prog := prog) (w := w) (A := A.in1) hh s.heap.objs.size x hne (ps.map fun p => Value.ref p.1).toArray
  have hsize : (ps.map fun p => Value.ref p.1).toArray.size = ps.length := by simp
  refine ⟨plainId_quiet F.plain_sum_loop _, sum_goes (t0 := t0) (ps := ps) (h0 := s.heap) W hsize ?_ h0p room h1.objs.size ?_ (Nat.le_of_lt hlt1) ?_ ?_ _ 0 _ t0 [] 0 rfl (Nat.zero_le _) ?_ ?_ ?_ ?_ ?_ rfl ?_ ?_⟩
  · intro i v hv
    rw [List.getElem?_toArray, List.getElem?_map] at hv
    cases hp : ps[i]? with
    | none => rw [hp] at hv; cases hv
    | some p => rw [hp] at hv; exact ⟨p, rfl, (Option.some.inj hv).symm⟩
  · intro z
    rcases List.mem_cons.mp z with z1 | z
    · exact absurd hlt1 (by rw [z1]; exact Nat.lt_irrefl _)
    · obtain rfl := List.mem_singleton.mp z
      exact absurd (Heap.lt_size (g1 _ _ hox)) (Nat.lt_irrefl _)
  · intro b hb
    obtain rfl := List.mem_singleton.mp hb
    cases ez : s.heap.get? s.heap.objs.size with
    | none => rfl
    | some o => exact absurd (Heap.lt_size ez) (Nat.lt_irrefl _)
  · rintro i h ⟨⟨oi, hoi, _⟩, ⟨oa, hoa, _⟩⟩ b hb
    rcases List.mem_cons.mp hb with z1 | z
    · exact ⟨oi, by rw [z1]; exact hoi⟩
    · obtain rfl := List.mem_singleton.mp z
      exact ⟨oa, hoa⟩
  · refine ⟨⟨_, Heap.get?_push_of_some _ hI, rfl, rfl⟩, ?_⟩
    exact hx.at fun o e => Heap.get?_push_of_some _ (g1 _ _ e)
  · exact fun b o e => Heap.get?_push_of_some _ (g1 _ _ e)
  · exact (Heap.get?_push_size _ rfl)
  · exact ⟨o0, Heap.get?_push_of_some _ (g1 _ _ ho0), hc0, m0, hd0⟩
  · intro z
    obtain rfl := List.mem_singleton.mp z
    exact absurd (Heap.lt_size ho0) (Nat.lt_irrefl _)
  · exact .inr (.inl ⟨rfl, fun j p hj _ => absurd hj (Nat.not_lt_zero j)⟩)
  · intro h' tk r' k1 k2 k3
    rw [hsize] at k3
    exact done h' tk r' k1 k2 k3
end
section
variable {X : Cx} {pins : List (Addr × Obj)} {σ : L2.St} {W : Addr → Prop} {H : Hp} {s : Shared}
theorem flat_only {α : Type} : ∀ {xss : List (List α)} {j : Nat} {d : List α}, xss[j]? = some d → (∀ (j' : Nat) (d' : List α), j' ≠ j → xss[j']? = some d' → d' = []) → xss.flatten = d
  | [], j, d, h, _ => by simp at h
  | x :: xss, 0, d, h, g => by
    simp at h
    subst h
    have : xss.flatten = [] := by
      rw [List.flatten_eq_nil_iff]
      intro l hl
      obtain ⟨k, hk⟩ := List.mem_iff_getElem?.mp hl
      exact g (k + 1) l (by omega) (by simpa using hk)
    rw [List.flatten_cons, this, List.append_nil]
  | x :: xss, j + 1, d, h, g => by
    have e := g 0 x (by omega) (by simp)
    subst e
    rw [List.flatten_cons, List.nil_append]
    exact flat_only (by simpa using h) fun j' d' hj hd => g (j' + 1) d' (by omega) (by simpa using hd)
theorem parts_are (I : Inv X pins σ H s) : ∀ (xss : List (List D)) (xs : List V), RA W H xs (xss.map PyData.tuple) → ∃ (ps : List (Addr × List Value)) (ys : List V), xs = ps.map (fun p => V.ref p.1) ∧ ps.length = xss.length ∧ (∀ p ∈ ps, IsTup s.heap p.1 p.2.toArray) ∧
    Vals ys (allOf ps) ∧ RA W H ys xss.flatten ∧ ∀ (i : Nat) (p : Addr × List Value) (ds : List D), ps[i]? = some p → xss[i]? = some ds → (p.2 = [] → ds = []) ∧ R W H (.ref p.1) (.tuple ds)
  | [], xs, h => by
    cases h
    exact ⟨[], [], rfl, rfl, (fun p hp => by cases hp), .nil, .nil, fun i p ds h1 _ => by simp at h1⟩
  | ds :: xss, xs, h => by
    cases h with
    | cons h1 h2 =>
      obtain ⟨ps, ys, e1, e2, e3, e4, e5, e6⟩ := parts_are I xss _ h2
      have h1' := h1
      cases h1 with
      | tup w e ra =>
        rename_i a zs
        obtain ⟨its, rv, ht, _⟩ := I.tuple (SqT.of e)
        refine ⟨(a, its) :: ps, zs ++ ys, by rw [e1]; rfl, by simp [e2], fun p hp => ?_, ?_, ?_, fun i p ds' g1 g2 => ?_⟩
        · rcases List.mem_cons.mp hp with rfl | hp
          · exact ht
          · exact e3 p hp
        · exact rv.append e4
        · exact ra.app e5
        · cases i with
          | zero =>
            simp at g1 g2
            subst g1 g2
            refine ⟨fun z => ?_, h1'⟩
            have z : its = [] := z
            subst z
            have l1 := rv.length
            have l2 := ra.length
            simp at l1
            rw [l1] at l2
            exact List.length_eq_zero_iff.mp l2.symm
          | succ i => exact e6 i p ds' (by simpa using g1) (by simpa using g2)
theorem partsD_map : ∀ {ds : List D} {xss : List (List D)}, partsD ds = some xss → ds = xss.map PyData.tuple
  | [], xss, h => by simp [partsD] at h; subst h; rfl
  | d :: ds, xss, h => by
    cases d <;> simp [partsD] at h
    obtain ⟨yss, h1, rfl⟩ := h
    rw [partsD_map h1]
    rfl
theorem vals_refs : ∀ {ps : List (Addr × List Value)} {us : List Value}, Vals (ps.map fun p => V.ref p.1) us → us = ps.map fun p => Value.ref p.1
  | [], us, h => by cases h; rfl
  | p :: ps, us, h => by
    cases h with
    | cons h1 h2 =>
      cases h1
      rw [vals_refs h2]
      rfl
theorem cr_sumD2 (hc : X.calm = true) : CallR X (.builtin "sum") (rB sumD) := by
  intro pins s σ H xs us Q I r hr
  obtain ⟨W, ds, res, hw, hp, e, k⟩ := id hr
  unfold sumD at e
  split at e
  · rename_i ds
    cases hxs : partsD ds with
    | none => rw [hxs] at e; cases e
    | some xss =>
      rw [hxs] at e
      simp only at e
      split at e
      · rename_i hlen
        cases e
        obtain ⟨x, y, rfl, h1, h2⟩ := P2 hp
        obtain ⟨a, zs, rfl, w1, e1, r1⟩ := h1.tup
        obtain ⟨b, os, rfl, w2, e2, r2⟩ := h2.tup
        have hos : os = [] := r2.nilV.mpr rfl
        subst hos
        rw [partsD_map hxs] at r1
        obtain ⟨ps, ys, rfl, c2, c3, c4, c5, c6⟩ := parts_are I xss _ r1
        cases r with
        | cons ra rb =>
          cases rb with
          | cons rb rc =>
            cases rc
            cases ra
            cases rb
            obtain ⟨its, rv, ht, _⟩ := I.tuple (SqT.of e1)
            rw [vals_refs rv] at ht
            obtain ⟨its0, rv0, ht0, _⟩ := I.tuple (SqT.of e2)
            cases rv0
            have room : (allOf ps).length ≤ sizeLine := by rw [← c4.length, c5.length, sl_eq]; exact hlen
            refine call_sum2 (I.ok.hd hc) ht c3 ht0 room fun h' tk r' keep tup org => ?_
            have only : ∀ (j' : Nat) (d' : List D) , xss[j']? = some d' → ∃ p, ps[j']? = some p := fun j' d' hd => by
              have hj := (List.getElem?_eq_some_iff.mp hd).1
              exact ⟨ps[j']'(by omega), List.getElem?_eq_getElem (by omega)⟩
            rcases org with o1 | ⟨o1, o2⟩ | ⟨j, p, o1, o2, o3, o4⟩
            · refine ⟨.ref r', upd H r' (.tup ys), I.laid (t' := tk) keep o1 ⟨by rw [c5.length, sl_eq]; exact hlen, _, c4, tup⟩, rfl, k _ _ (c5.newT (I.hok.fresh o1) hw)⟩
            · subst o1
              refine ⟨.ref r', H, I.kept (t' := tk) keep, rfl, k _ _ (Res.same ?_ rfl)⟩
              have : xss.flatten = [] := by
                rw [List.flatten_eq_nil_iff]
                intro l hl
                obtain ⟨j, hj⟩ := List.mem_iff_getElem?.mp hl
                obtain ⟨p, hp'⟩ := only j l hj
                have := (List.getElem?_eq_some_iff.mp hp').1
                exact (c6 j p l hp' hj).1 (o2 j p this hp')
              rw [this]
              exact h2.tupR
            · subst o3
              refine ⟨.ref p.1, H, I.kept (t' := tk) keep, rfl, k _ _ (Res.same ?_ rfl)⟩
              have hj : j < xss.length := by omega
              rw [flat_only (List.getElem?_eq_getElem hj) fun j' d' hne hd => ?_]
              · exact (c6 j p _ o2 (List.getElem?_eq_getElem hj)).2
              · obtain ⟨p', hp'⟩ := only j' d' hd
                have := (List.getElem?_eq_some_iff.mp hp').1
                exact (c6 j' p' d' hp' hd).1 (o4 j' p' this hne hp')
      · cases e
  · exact cr_sumD hc pins s σ H _ us Q I r ⟨W, _, res, hw, hp, e, k⟩
end
end Ev
end

section
set_option Elab.async false
set_option linter.all false
set_option maxRecDepth 100000
/-! Ev8: the small language beside the program's text; contexts; what is written. -/
namespace Ev
open PySem PySem.Spec PyProof.Rows L2

/-! ### the text beside it -/
def visB (sc : Scope) (x : Str) : Bool := match sc.names.lookup x with
  | some .local => true
  | some .cell => true
  | some .free => true
  | _ => false
def locB (sc : Scope) (x : Str) : Bool := match sc.names.lookup x with
  | some .local => true
  | some .cell => true
  | _ => false
def glB (sc : Scope) (x : Str) : Bool := match sc.names.lookup x with
  | some .globalImplicit => true
  | _ => false
def okN (x : Str) : Bool := !(x == ("__debug__" : Str)) && !(x == ("__classdict__" : Str)) && !(x == ("__name__" : Str))
def BF.nm : BF → Str
  | .len => "len" | .abs => "abs" | .int => "int" | .max => "max" | .min => "min" | .sum => "sum" | .any => "any" | .all => "all" | .tuple => "tuple" | .list => "list" | .repr => "repr" | .sorted => "sorted" | .dict => "dict"
/-- all built-in names that are used -/
def bltNames : List Str := ["len", "abs", "int", "max", "min", "sum", "any", "all", "tuple", "list", "repr", "range", "enumerate", "zip", "isinstance", "bool", "str", "dict", "sorted", "set"]
def TF.nm : TF → Str
  | .int => "int" | .bool => "bool" | .str => "str" | .tuple => "tuple" | .list => "list" | .dict => "dict"
def starB : Expr → Bool
  | .Starred _ _ => true
  | _ => false
def testB : Expr → Bool
  | .IfExp _ _ _ _ => false
  | .Starred _ _ => false
  | _ => true
def baseB : Expr → Bool
  | .Call (.Name _ _) [] [] _ => false
  | _ => true
def andB : BoolOp → Bool
  | .And => true
  | .Or => false
def sliceB : Expr → Bool
  | .Slice _ _ _ _ => true
  | _ => false
/-- enumerate, zip: their pairs are taken apart at once -/
def tupI : II → Expr → Bool
  | .enm _, .Tuple _ _ _ => true
  | .zip _ _, .Tuple _ _ _ => true
  | .zps _ _, .Tuple _ _ _ => true
  | .enm _, _ => false
  | .zip _ _, _ => false
  | .zps _ _, _ => false
  | _, _ => true
def setB : Expr → Bool
  | .Set _ _ _ => true
  | _ => false
mutual
def slotsT : Tg → List Nat
  | .nm i => [i]
  | .tup ts => slotsTs ts
def slotsTs : List Tg → List Nat
  | [] => []
  | t :: ts => slotsT t ++ slotsTs ts
end
mutual
def mT (N : List Str) (sc : Scope) : Tg → Expr → Bool
  | .nm i, .Name x _ => decide (N[i]? = some x) && locB sc x
  | .tup ts, .Tuple es _ _ => mTs N sc ts es && !es.isEmpty
  | _, _ => false
def mTs (N : List Str) (sc : Scope) : List Tg → List Expr → Bool
  | [], [] => true
  | t :: ts, e :: es => mT N sc t e && !starB e && mTs N sc ts es
  | _, _ => false
end
variable (F : List String) (N : List Str) in
mutual
def mE : Scope → IE → Expr → Bool
  | sc, .var i, ee => match ee with
    | .Name x _ => decide (N[i]? = some x) && visB sc x && okN x
    | _ => false
  | _, .non, ee => match ee with
    | .Constant .none _ _ => true
    | _ => false
  | _, .bl b, ee => match ee with
    | .Constant (.bool c) _ _ => b == c
    | _ => false
  | _, .int i, ee => match ee with
    | .Constant (.int j) _ _ => decide (i = j)
    | _ => false
  | _, .str x, ee => match ee with
    | .Constant (.str y) _ _ => decide (x = y)
    | _ => false
  | sc, .bin op a b, ee => match ee with
    | .BinOp l o r _ => decide (op = o) && mE sc a l && mE sc b r
    | _ => false
  | sc, .neg a, ee => match ee with
    | .UnaryOp .USub x _ => mE sc a x
    | _ => false
  | sc, .nt a, ee => match ee with
    | .UnaryOp .Not x _ => mE sc a x && testB x
    | _ => false
  | sc, .bop c es, ee => match ee with
    | .BoolOp op vs _ => (c == andB op) && mB sc es vs
    | _ => false
  | sc, .ife c a b, ee => match ee with
    | .IfExp c' a' b' _ => mE sc c c' && testB c' && mE sc a a' && mE sc b b'
    | _ => false
  | sc, .tup es, ee => match ee with
    | .Tuple vs _ _ => mEs sc es vs
    | _ => false
  | sc, .lst es, ee => match ee with
    | .List vs _ => mEs sc es vs
    | _ => false
  | sc, .cmp op a b, ee => match ee with
    | .Compare l [o] [r] _ => decide (op = o) && mE sc a l && mE sc b r && !setB r
    | _ => false
  | sc, .chain op op' a b c, ee => match ee with
    | .Compare l [o, o'] [r, q] _ => decide (op = o) && decide (op' = o') && mE sc a l && mE sc b r && mE sc c q && !setB r && !setB q
    | _ => false
  | sc, .isN neg a, ee => match ee with
    | .Compare l [o] [.Constant .none _ _] _ => decide (o = if neg then .IsNot else .Is) && mE sc a l
    | _ => false
  | sc, .call f es, ee => match ee with
    | .Call (.Name x _) vs [] _ => decide (x = Str.ofString f) && F.contains f && glB sc x && okN x && !vs.isEmpty && starless vs && mEs sc es vs
    | _ => false
  | sc, .callK f es, ee => match ee with
    | .Call (.Name x _) vs [] _ => decide (x = Str.ofString f) && F.contains f && glB sc x && okN x && !vs.isEmpty && starless vs && mEs sc es vs
    | _ => false
  | sc, .bcl f es, ee => match ee with
    | .Call (.Name x _) vs [] _ => decide (x = f.nm) && glB sc x && !vs.isEmpty && starless vs && mEs sc es vs
    | _ => false
  | sc, .isi a t, ee => match ee with
    | .Call (.Name x _) [v, .Name y _] [] _ => decide (x = "isinstance") && glB sc x && decide (y = t.nm) && glB sc y && mE sc a v && !starB v
    | _ => false
  | sc, .rmv o e, ee => match ee with
    | .Call (.Attribute o' m apos) [v] [] cpos => decide (m = "remove") && (apos.endLine == cpos.line) && baseB o' && mE sc o o' && mE sc e v && !starB v
    | _ => false
  | sc, .app o e, ee => match ee with
    | .Call (.Attribute o' m apos) [v] [] cpos => decide (m = "append") && (apos.endLine == cpos.line) && baseB o' && mE sc o o' && mE sc e v && !starB v
    | _ => false
  | sc, .upd o e, ee => match ee with
    | .Call (.Attribute o' m apos) [v] [] cpos => decide (m = "update") && (apos.endLine == cpos.line) && baseB o' && mE sc o o' && mE sc e v && !starB v
    | _ => false
  | sc, .ext o e, ee => match ee with
    | .Call (.Attribute o' m apos) [v] [] cpos => decide (m = "extend") && (apos.endLine == cpos.line) && baseB o' && mE sc o o' && mE sc e v && !starB v
    | _ => false
  | sc, .rmd o e, ee => match ee with
    | .Call (.Attribute o' m apos) [v] [] cpos => decide (m = "remove") && (apos.endLine == cpos.line) && baseB o' && mE sc o o' && mE sc e v && !starB v
    | _ => false
  | sc, .fnd o e, ee => match ee with
    | .Call (.Attribute o' m apos) [v] [] cpos => decide (m = "index") && (apos.endLine == cpos.line) && baseB o' && mE sc o o' && mE sc e v && !starB v
    | _ => false
  | sc, .ctd o e, ee => match ee with
    | .Call (.Attribute o' m apos) [v] [] cpos => decide (m = "count") && (apos.endLine == cpos.line) && baseB o' && mE sc o o' && mE sc e v && !starB v
    | _ => false
  | sc, .pop o .nil, ee => match ee with
    | .Call (.Attribute o' m apos) [] [] cpos => decide (m = "pop") && (apos.endLine == cpos.line) && baseB o' && mE sc o o'
    | _ => false
  | sc, .pop o (.cons e .nil), ee => match ee with
    | .Call (.Attribute o' m apos) [v] [] cpos => decide (m = "pop") && (apos.endLine == cpos.line) && baseB o' && mE sc o o' && mE sc e v && !starB v
    | _ => false
  | sc, .idx o i, ee => match ee with
    | .Subscript o' i' _ => mE sc o o' && mE sc i i' && !sliceB i'
    | _ => false
  | sc, .slc o lo hi, ee => match ee with
    | .Subscript o' (.Slice lo' hi' none _) _ => mE sc o o' && mO sc lo lo' && mO sc hi hi'
    | _ => false
  | sc, .rev o, ee => match ee with
    | .Subscript o' (.Slice none none (some (.UnaryOp .USub (.Constant (.int j) _ _) _)) _) _ => decide (j = 1) && mE sc o o'
    | _ => false
  | sc, .comp elt tg it cond own, ee => match ee with
    | .ListComp elt' [⟨tg', it', ifs, 0⟩] scope _ => mI sc it it' && blkC N sc scope (own.map fun i => (N.getD i "", i)) && mT N scope tg tg' && mC scope cond ifs && mE scope elt elt' && !setB it' && tupI it tg' && (slotsT tg).all (own.contains ·)
    | _ => false
  | sc, .comp2 elt tg it cond tg1 it1 cond1 own own1, ee => match ee with
    | .ListComp elt' [⟨tg', it', ifs, 0⟩, ⟨tg1', it1', ifs1, 0⟩] scope _ => mI sc it it' && blkC N sc scope (own.map fun i => (N.getD i "", i)) && mT N scope tg tg' && mC scope cond ifs && mI scope it1 it1' && mT N scope tg1 tg1' && mC scope cond1 ifs1 && mE scope elt elt' && !setB it' && !setB it1' && tupI it tg' && tupI it1 tg1' && (slotsT tg).all (own.contains ·) && (slotsT tg1).all (own1.contains ·) && own1.all (own.contains ·)
    | _ => false
  | sc, .lset e, ee => match ee with
    | .Call (.Name x _) [.Call (.Name y _) [v] [] _] [] _ => decide (x = "len") && decide (y = "set") && glB sc x && glB sc y && mE sc e v && !starB v
    | _ => false
  | sc, .sco b elt tg it cond own, ee => match ee with
    | .Call (.Name x _) [.SetComp elt' [⟨tg', it', ifs, 0⟩] scope _] [] _ => decide (x = if b then "sorted" else "len") && glB sc x && mI sc it it' && blkC N sc scope (own.map fun i => (N.getD i "", i)) && mT N scope tg tg' && mC scope cond ifs && mE scope elt elt' && !setB it' && tupI it tg' && (slotsT tg).all (own.contains ·)
    | _ => false
  | sc, .dct1 k v, ee => match ee with
    | .Dict [some k'] [v'] _ => mE sc k k' && mE sc v v'
    | _ => false
  | sc, .dcp kx vx tg it cond own, ee => match ee with
    | .DictComp kx' vx' [⟨tg', it', ifs, 0⟩] scope _ => mI sc it it' && blkC N sc scope (own.map fun i => (N.getD i "", i)) && mT N scope tg tg' && mC scope cond ifs && mE scope kx kx' && mE scope vx vx' && !setB it' && tupI it tg' && (slotsT tg).all (own.contains ·)
    | _ => false
  | _, .dnew _, ee => match ee with
    | .Dict [] [] _ => true
    | _ => false
  | sc, .rcd fs, ee => match ee with
    | .Dict keys vals _ => mR sc fs keys vals && decide ((namesR fs).Nodup) && decide (keys.length ≤ 15) && !keys.isEmpty
    | _ => false
  | sc, .lrg t (.rg1 a), ee => match ee with
    | .Call (.Name x _) [.Call (.Name y _) [v] [] _] [] _ => decide (x = if t then "tuple" else "list") && glB sc x && decide (y = "range") && glB sc y && mE sc a v && !starB v
    | _ => false
  | sc, .lrg t (.rg2 a b), ee => match ee with
    | .Call (.Name x _) [.Call (.Name y _) [v, u] [] _] [] _ => decide (x = if t then "tuple" else "list") && glB sc x && decide (y = "range") && glB sc y && mE sc a v && !starB v && mE sc b u && !starB u
    | _ => false
  | _, _, _ => false
def mEs : Scope → IEs → List Expr → Bool
  | _, .nil, ee => match ee with
    | [] => true
    | _ => false
  | sc, .cons e es, ee => match ee with
    | v :: vs => mE sc e v && !starB v && mEs sc es vs
    | _ => false
  | sc, .star e es, ee => match ee with
    | .Starred v _ :: vs => mE sc e v && mEs sc es vs
    | _ => false
def mB : Scope → IEs → List Expr → Bool
  | sc, .cons e .nil, ee => match ee with
    | [v] => mE sc e v && testB v
    | _ => false
  | sc, .cons e (.cons e2 es), ee => match ee with
    | v :: v2 :: vs => mE sc e v && testB v && mB sc (.cons e2 es) (v2 :: vs)
    | _ => false
  | _, _, _ => false
def mO : Scope → IO → Option Expr → Bool
  | _, .no, ee => match ee with
    | none => true
    | _ => false
  | sc, .so e, ee => match ee with
    | some v => mE sc e v
    | _ => false
def mC : Scope → IO → List Expr → Bool
  | _, .no, ee => match ee with
    | [] => true
    | _ => false
  | sc, .so e, ee => match ee with
    | [v] => mE sc e v && testB v
    | _ => false
def mR : Scope → IR → List (Option Expr) → List Expr → Bool
  | _, .nil, e1, e2 => match e1, e2 with
    | [], [] => true
    | _, _ => false
  | sc, .cons x e fs, e1, e2 => match e1, e2 with
    | some (.Constant (.str y) _ _) :: ks, v :: vs => decide (x = y) && mE sc e v && mR sc fs ks vs
    | _, _ => false
def mI : Scope → II → Expr → Bool
  | sc, .rg1 a, ee => match ee with
    | .Call (.Name x _) [v] [] _ => decide (x = "range") && glB sc x && mE sc a v && !starB v
    | _ => false
  | sc, .rg2 a b, ee => match ee with
    | .Call (.Name x _) [v, u] [] _ => decide (x = "range") && glB sc x && mE sc a v && !starB v && mE sc b u && !starB u
    | _ => false
  | sc, .rg3 a b c, ee => match ee with
    | .Call (.Name x _) [v, u, t] [] _ => decide (x = "range") && glB sc x && mE sc a v && !starB v && mE sc b u && !starB u && mE sc c t && !starB t
    | _ => false
  | sc, .enm a, ee => match ee with
    | .Call (.Name x _) [v] [] _ => decide (x = "enumerate") && glB sc x && mE sc a v && !starB v
    | _ => false
  | sc, .zip a b, ee => match ee with
    | .Call (.Name x _) [v, u] [] _ => decide (x = "zip") && glB sc x && mE sc a v && !starB v && mE sc b u && !starB u
    | _ => false
  | sc, .zps a b, ee => match ee with
    | .Call (.Name x _) [v, u] [⟨some k, .Constant (.bool t) _ _, _⟩] _ => decide (x = "zip") && decide (k = "strict") && t && glB sc x && mE sc a v && !starB v && mE sc b u && !starB u
    | _ => false
  | sc, .ex e, v => mE sc e v
end

/-! ### contexts -/
/-- what a def promises, by its spec -/
def RRet (K : PySem.W.Frag) (ρ' : List Addr) (W' : Addr → Prop) (H H' : Hp) (r : EV) (x : V) : Prop :=
  if r.own then ∃ a d, r.val = .dat d ∧ x = .ref a ∧ W' a ∧ RO W' H' a d ∧ a ∉ ρ' ∧ H a = none else RVal K ρ' W' H' r.val x
def spOf (K : PySem.W.Frag) (S : SpecK) (f : String) : Sp0 := fun vs H Q => ∃ ρ sto W args R, SRel ρ sto W H ∧ Paired (RVal K ρ W H) args vs ∧ S f args sto R ∧
  ∀ r sto' x ρ' W' H', R r sto' → SRel ρ' sto' W' H' → Fr' (· ∈ ρ) W H W' H' → ρ <+: ρ' → (∀ a ∈ ρ', a ∈ ρ ∨ H a = none) → RRet K ρ' W' H H' r x → Q x H'
def CallOk (X : Cx) (S : SpecK) (f : String) : Prop := ∃ (k : Nat) (a : Addr) (fd : FuncData) (ps : List Str), X.mg (Str.ofString f) = some (.ref a) ∧ PySem.W.keepIn X.K (.ref a) = true ∧ Binds X.K fd ps [] ∧
  FnG X.prog X.w X.K X.mg X.base k a fd ps (spOf X.K S f) ∧ Room k X.A
structure XOk (F : List String) (N : List Str) (S : SpecK) (X : Cx) (sc : Scope) : Prop where
  hN : X.N = N
  nd : N.Nodup
  calm : X.calm = true
  guards : X.A.guards = some []
  room : X.A.units + 200 < cLine
  noex : X.xe = fun _ _ => False
  vis : ∀ x k, sc.names.lookup x = some k → k ≠ .free → X.env.kindOf x = some k
  visF : ∀ x, sc.names.lookup x = some .free → X.env.kindOf x = some .free ∨ X.env.kindOf x = some .cell
  fnok : ∀ x, locB sc x = true → X.fn x = true ∨ X.env.scope.names.lookup x = some .local
  blt : ∀ x ∈ bltNames, X.mg x = none
  call : ∀ f, F.contains f = true → CallOk X S f

section
variable {F : List String} {N : List Str} {S : SpecK} {X : Cx} {sc : Scope}
theorem XOk.visOk (x : XOk F N S X sc) {y : Str} (h : visB sc y = true) : Vis X.env.scope y := by
  unfold visB at h
  split at h
  · rename_i e; exact .inl (x.vis y _ e (by decide))
  · rename_i e; exact .inr (.inl (x.vis y _ e (by decide)))
  · rename_i e
    rcases x.visF y e with q | q
    · exact .inr (.inr q)
    · exact .inr (.inl q)
  · cases h
theorem XOk.locOk (x : XOk F N S X sc) {y : Str} (h : locB sc y = true) : Loc X.env.scope y := by
  unfold locB at h
  split at h
  · rename_i e; exact .inl (x.vis y _ e (by decide))
  · rename_i e; exact .inr (x.vis y _ e (by decide))
  · cases h
theorem XOk.glOk (x : XOk F N S X sc) {y : Str} (h : glB sc y = true) : Gl X y := by
  unfold glB at h
  split at h
  · rename_i e; exact x.vis y _ e (by decide)
  · cases h
end

/-! ### what is written -/
section
variable {K : PySem.W.Frag} {ρ : List Addr} {st : Stt} {W : Addr → Prop} {σ : L2.St} {H : Hp}
/-- the object of an owned slot is changed -/
theorem Rel.put (r : Rel K ρ st W σ H) {i : Nat} {val : Val} {a : Addr} {o : HO} {d : D} (hi : st.env[i]? = some (some ⟨true, val⟩)) (ha : σ[i]? = some (some (.ref a))) (ro : RO W (upd H a o) a d) :
    Step K ρ st W σ H ρ { st with env := st.env.set i (some ⟨true, .dat d⟩) } W σ (upd H a o) := by
  obtain ⟨a', d', _, h1, wa, _, nr⟩ := r.ow i val hi
  rw [ha] at h1; cases h1
  have hl : i < st.env.length := (List.getElem?_eq_some_iff.mp hi).1
  have pr : Pres W H W (upd H a o) := fun b q w e => ⟨w, by rw [upd_ne (fun z => w (by rw [z]; exact wa))]; exact e⟩
  refine ⟨⟨⟨r.s.len, r.s.nd, fun j ob b h1 h2 => ?_, fun b w => ?_⟩, by simpa using r.len, fun j v h => ?_, fun j v h => ?_, fun j k vj vk b h1 h2 h3 h4 => ?_⟩, ⟨pr, fun b w l => ⟨w, upd_ne fun z => l (by rw [z]; exact .inr ⟨i, val, hi, ha⟩)⟩, fun b h => ?_⟩, List.prefix_refl _, fun b l => ?_⟩
  · obtain ⟨w, q⟩ := r.s.at_ j ob b h1 h2
    exact ⟨w, q.ext (upd_ne fun z => nr (by rw [← z]; exact List.mem_of_getElem? h2)) (List.prefix_refl _)⟩
  · by_cases z : b = a
    · rw [z, upd_same]; simp
    · rw [upd_ne z]; exact r.s.wn b w
  · by_cases z : i = j
    · subst z
      have h : (st.env.set i (some ⟨true, .dat d⟩))[i]? = some (some ⟨false, v⟩) := h
      rw [List.getElem?_set_self hl] at h; cases h
    · have h : (st.env.set i (some ⟨true, .dat d⟩))[j]? = some (some ⟨false, v⟩) := h
      rw [List.getElem?_set_ne z] at h
      obtain ⟨v', q1, q2⟩ := r.fz j v h
      exact ⟨v', q1, q2.pres pr (List.prefix_refl _)⟩
  · by_cases z : i = j
    · subst z
      have h : (st.env.set i (some ⟨true, .dat d⟩))[i]? = some (some ⟨true, v⟩) := h
      rw [List.getElem?_set_self hl] at h; cases h
      exact ⟨a, d, rfl, ha, wa, ro, nr⟩
    · have h : (st.env.set i (some ⟨true, .dat d⟩))[j]? = some (some ⟨true, v⟩) := h
      rw [List.getElem?_set_ne z] at h
      obtain ⟨b, e, q1, q2, q3, q4, q5⟩ := r.ow j v h
      exact ⟨b, e, q1, q2, q3, q4.pres pr (upd_ne fun y => z (r.ap i j _ _ a hi h ha (by rw [q2, y]))), q5⟩
  · have own : ∀ (m : Nat) (v : Val), (st.env.set i (some ⟨true, .dat d⟩))[m]? = some (some ⟨true, v⟩) → ∃ v', st.env[m]? = some (some ⟨true, v'⟩) := by
      intro m v h
      by_cases z : i = m
      · subst z; exact ⟨_, hi⟩
      · rw [List.getElem?_set_ne z] at h; exact ⟨_, h⟩
    obtain ⟨v1, e1⟩ := own j vj h1
    obtain ⟨v2, e2⟩ := own k vk h2
    exact r.ap j k v1 v2 b e1 e2 h3 h4
  · by_cases z : b = a
    · rw [z, upd_same]; simp
    · rw [upd_ne z]; exact h
  · rcases l with l | ⟨j, v, l1, l2⟩
    · exact .inl (.inl l)
    · by_cases z : i = j
      · subst z; exact .inl (.inr ⟨i, val, hi, l2⟩)
      · have l1 : (st.env.set i (some ⟨true, .dat d⟩))[j]? = some (some ⟨true, v⟩) := l1
        rw [List.getElem?_set_ne z] at l1
        exact .inl (.inr ⟨j, v, l1, l2⟩)
/-- an object of the store is changed -/
theorem Rel.puts (r : Rel K ρ st W σ H) {j : Nat} {ob ob' : SObj} {a : Addr} {o : HO} (hj : st.sto[j]? = some ob) (ha : ρ[j]? = some a) (rs : RS ρ (upd H a o) a ob') :
    Step K ρ st W σ H ρ { st with sto := st.sto.set j ob' } W σ (upd H a o) := by
  have wa := (r.s.at_ j ob a hj ha).1
  have hl : j < st.sto.length := (List.getElem?_eq_some_iff.mp hj).1
  have pr : Pres W H W (upd H a o) := fun b q w e => ⟨w, by rw [upd_ne (fun z => w (by rw [z]; exact wa))]; exact e⟩
  refine ⟨⟨⟨by simpa using r.s.len, r.s.nd, fun m q b h1 h2 => ?_, fun b w => ?_⟩, r.len, fun m v h => ?_, fun m v h => ?_, r.ap⟩, ⟨pr, fun b w l => ⟨w, upd_ne fun z => l (by rw [z]; exact .inl (List.mem_of_getElem? ha))⟩, fun b h => ?_⟩, List.prefix_refl _, fun b l => .inl l⟩
  · by_cases z : j = m
    · subst z
      have h1 : (st.sto.set j ob')[j]? = some q := h1
      rw [List.getElem?_set_self hl] at h1; cases h1
      rw [ha] at h2; cases h2
      exact ⟨wa, rs⟩
    · have h1 : (st.sto.set j ob')[m]? = some q := h1
      rw [List.getElem?_set_ne z] at h1
      obtain ⟨w, q'⟩ := r.s.at_ m q b h1 h2
      refine ⟨w, q'.ext (upd_ne fun y => z ?_) (List.prefix_refl _)⟩
      subst y
      obtain ⟨l1, e1⟩ := List.getElem?_eq_some_iff.mp ha
      obtain ⟨l2, e2⟩ := List.getElem?_eq_some_iff.mp h2
      exact (List.getElem_inj r.s.nd).mp (e1.trans e2.symm)
  · by_cases z : b = a
    · rw [z, upd_same]; simp
    · rw [upd_ne z]; exact r.s.wn b w
  · obtain ⟨v', q1, q2⟩ := r.fz m v h
    exact ⟨v', q1, q2.pres pr (List.prefix_refl _)⟩
  · obtain ⟨b, e, q1, q2, q3, q4, q5⟩ := r.ow m v h
    exact ⟨b, e, q1, q2, q3, q4.pres pr (upd_ne fun y => q5 (by rw [y]; exact List.mem_of_getElem? ha)), q5⟩
  · by_cases z : b = a
    · rw [z, upd_same]; simp
    · rw [upd_ne z]; exact h
end
end Ev
end

section
set_option Elab.async false
set_option linter.all false
set_option maxRecDepth 100000
/-! Ev9: expressions do what their weakest preconditions say (all but comprehensions). -/
namespace Ev
open PySem PySem.Spec PyProof.Rows L2

def TB' (K : PySem.W.Frag) (wp : PreT) : TE := fun σ H Q => ∃ ρ st W P, Rel K ρ st W σ H ∧ wp P st ∧
  ∀ b st' ρ' W' H', P b st' → Step K ρ st W σ H ρ' st' W' σ H' → Q (.bl b) H'
structure Sound (X : Cx) (S : SpecK) (e : Expr) (ie : IE) : Prop where
  pe : PE X e (TE' X.K (wpE S ie))
  pt : testB e = true → PT X e (TT' X.K (wpT S ie))
  pb : testB e = true → PE X e (TB' X.K (wpT S ie))

section
variable {K : PySem.W.Frag} {ρ : List Addr} {st : Stt} {W : Addr → Prop} {σ : L2.St} {H H0 : Hp}
theorem RT.sc {o : Out} {x : V} {d : D} (r : Rel K ρ st W σ H) (h : RT K ρ st.env W σ H H0 o x) (e : o.val = .dat d) (f : isFresh d = false) : R W H x d := by
  obtain ⟨tag, val⟩ := o
  cases e
  cases tag with
  | frz => exact h
  | fre =>
    obtain ⟨a, d', e', _, _, ro, _⟩ := h
    cases e'
    cases d <;> first
      | exact ro.elim
      | simp [isFresh] at f
  | slot i =>
    obtain ⟨a, d', e', _, _, ro, _⟩ := r.ow i _ h.1
    cases e'
    cases d <;> first
      | exact ro.elim
      | simp [isFresh] at f
theorem RT.toBl {o : Out} {x : V} {b : Bool} (r : Rel K ρ st W σ H) (h : RT K ρ st.env W σ H H0 o x) (e : o.val = .dat (.bool b)) : x = .bl b := RR.bl (h.sc r e rfl).rr
theorem RT.toInt {o : Out} {x : V} {i : Int} (r : Rel K ρ st W σ H) (h : RT K ρ st.env W σ H H0 o x) (e : o.val = .dat (.int i)) : x = .int i := RR.int (h.sc r e rfl).rr
/-- a frozen out of a datum that is no object of its own -/
theorem RT.mk {x : V} {d : D} (h : R W H x d) : RT K ρ st.env W σ H H0 ⟨.frz, .dat d⟩ x := h
end

section
variable {F : List String} {N : List Str} {S : SpecK} {X : Cx} {sc : Scope}

theorem both_te {v : PreE} {σ : L2.St} {H : Hp} {Q : VK} (h : TT' X.K (both v).2 σ H fun b H' => Q (.bl b) H') : TE' X.K v σ H Q := by
  obtain ⟨ρ, st, W, P, r, w, k⟩ := h
  exact ⟨ρ, st, W, _, r, w, fun o st' ρ' W' H' x ⟨b, e, p⟩ s t => by
    rw [t.toBl s.rel e]
    exact k b st' ρ' W' H' p s⟩
theorem Sound.both {e : Expr} {ie : IE} {v : PreE} (hv : wpX S ie = both v) (pe : PE X e (TE' X.K v)) (pt : testB e = true → PT X e (tB (TE' X.K v))) : Sound X S e ie where
  pe := by unfold wpE; rw [hv]; exact pe
  pt := fun ht => by
    unfold wpT; rw [hv]
    refine (pt ht).weak fun σ H Q h => both_te (Q := fun x H1 => ∃ c, x = .bl c ∧ Q c H1) ?_
    obtain ⟨ρ, st, W, P, r, w, k⟩ := h
    exact ⟨ρ, st, W, P, r, w, fun b st' ρ' W' H' p s => ⟨b, rfl, k b st' ρ' W' H' p s⟩⟩
  pb := fun ht => by
    unfold wpT; rw [hv]
    exact pe.weak fun σ H Q h => both_te h
/-- .. of an expression whose test is its value's truth -/
def plainB : Expr → Bool
  | .UnaryOp .Not _ _ => false
  | .BoolOp _ _ _ => false
  | .IfExp _ _ _ _ => false
  | .Compare _ _ _ _ => false
  | _ => true
theorem plain_true {e : Expr} (h : plainB e = true) {env : Env} (whole : Sem Value) : isTrue e env whole = (do let v ← whole; standAt e.pos; holding [v] (truthy v)) := by
  cases e with
  | UnaryOp op x p => cases op <;> first
    | rfl
    | simp [plainB] at h
  | BoolOp _ _ _ => simp [plainB] at h
  | IfExp _ _ _ _ => simp [plainB] at h
  | Compare _ _ _ _ => simp [plainB] at h
  | _ => rfl
theorem Sound.plain {e : Expr} {ie : IE} {v : PreE} (hv : wpX S ie = Ev.both v) (pe : PE X e (TE' X.K v)) (hp : plainB e = true) : Sound X S e ie :=
  Sound.both hv pe fun _ => pt_val pe fun w => plain_true hp w

/-! ### names, constants -/
theorem s_var {i : Nat} {x : Str} {p : Pos} (c : XOk F N S X sc) (h1 : N[i]? = some x) (h2 : visB sc x = true) (h3 : okN x = true) : Sound X S (.Name x p) (.var i) := by
  have h3 : ((x == ("__debug__" : Str)) = false ∧ (x == ("__classdict__" : Str)) = false) ∧ (x == ("__name__" : Str)) = false := by simpa [okN] using h3
  refine Sound.plain rfl ((pe_var (i := i) (by rw [c.hN]; exact h1) (c.visOk h2) h3.1.1 h3.1.2).weak fun σ H Q h => ?_) rfl
  obtain ⟨ρ, st, W, P, r, w, k⟩ := h
  cases q : st.env[i]? with
  | none => simp only [q] at w
  | some oe =>
    cases oe with
    | none => simp only [q] at w
    | some ev =>
      simp only [q] at w
      obtain ⟨own, val⟩ := ev
      cases own with
      | true =>
        obtain ⟨a, d, e1, e2, e3, e4, e5⟩ := r.ow i val q
        exact ⟨_, e2, k _ _ _ _ _ _ w r.refl ⟨q, e2⟩⟩
      | false =>
        obtain ⟨v, e1, e2⟩ := r.fz i val q
        exact ⟨v, e1, k _ _ _ _ _ _ w r.refl e2⟩
theorem s_cst {e : Expr} {ie : IE} {v : V} {d : D} (hv : wpX S ie = both fun Q st => Q ⟨.frz, .dat d⟩ st) (pe : PE X e (tC v)) (hr : ∀ W H, R W H v d) (hp : plainB e = true) : Sound X S e ie := by
  refine Sound.plain hv (pe.weak fun σ H Q h => ?_) hp
  obtain ⟨ρ, st, W, P, r, w, k⟩ := h
  exact k _ _ _ _ _ _ w r.refl (hr W H)

/-! ### operators -/
theorem s_bin {op : Operator} {a b : IE} {l r : Expr} {p : Pos} (ha : Sound X S l a) (hb : Sound X S r b) : Sound X S (.BinOp l op r p) (.bin op a b) := by
  refine Sound.plain rfl ((pe_op (or_bin op) ha.pe hb.pe).weak fun σ H Q h => ?_) rfl
  obtain ⟨ρ, st, W, P, r, w, k⟩ := h
  refine ⟨ρ, st, W, _, r, w, fun o1 st1 ρ1 W1 H1 x p1 s1 t1 => ⟨ρ1, st1, W1, _, s1.rel, p1, fun o2 st2 ρ2 W2 H2 y p2 s2 t2 => ?_⟩⟩
  obtain ⟨ok, d1, d2, res, v1, v2, e, q⟩ := p2
  have t1 := t1.later s2 s1.rel ok
  refine ⟨W2, d1, d2, res, s2.rel.s.wn, t1.read s2.rel v1, t2.read s2.rel v2, e, fun z H' hz => ?_⟩
  obtain ⟨W', s3, t3⟩ := hz.step s2.rel (fun a n => (s1.trans r s2).free n)
  exact k _ _ _ _ _ _ q ((s1.trans r s2).trans r s3) t3
theorem cmp_te {op : CmpOp} {a b : IE} {σ : L2.St} {H : Hp} {Q : VK} {v : PreE} (hv : wpX S (.cmp op a b) = both v) (h : TE' X.K v σ H Q) : tOp (rC (cmpA op)) (TE' X.K (wpE S a)) (TE' X.K (wpE S b)) σ H Q := by
  have hv : both (fun Q st => wpE S a (fun o1 st1 => wpE S b (fun o2 st2 => okO o1 st2 ∧ ∃ d1 d2 r, view st2.sto o1.val = some d1 ∧ view st2.sto o2.val = some d2 ∧ cmpA op d1 d2 = some r ∧ Q ⟨.frz, .dat (.bool r)⟩ st2) st1) st) = both v := hv
  have hv := congrArg Prod.fst hv
  have hv : _ = v := hv
  subst hv
  obtain ⟨ρ, st, W, P, r, w, k⟩ := h
  refine ⟨ρ, st, W, _, r, w, fun o1 st1 ρ1 W1 H1 x p1 s1 t1 => ⟨ρ1, st1, W1, _, s1.rel, p1, fun o2 st2 ρ2 W2 H2 y p2 s2 t2 => ?_⟩⟩
  obtain ⟨ok, d1, d2, res, v1, v2, e, q⟩ := p2
  have t1 := t1.later s2 s1.rel ok
  exact ⟨W2, d1, d2, res, s2.rel.s.wn, t1.read s2.rel v1, t2.read s2.rel v2, e, k _ _ _ _ _ _ q (s1.trans r s2) (.bl _)⟩
theorem noMarks {op : CmpOp} {e : Expr} (h : setB e = false) : behindInMarks op e = false := by
  cases e <;> first
    | rfl
    | simp [setB] at h
theorem s_cmp {op : CmpOp} {a b : IE} {l r : Expr} {p : Pos} (c : XOk F N S X sc) (ha : Sound X S l a) (hb : Sound X S r b) (hs : setB r = false) : Sound X S (.Compare l [op] [r] p) (.cmp op a b) := by
  have ho := or_cmp (X := X) (by have := c.room; omega) op
  exact Sound.both rfl ((pe_cmpR ho ha.pe hb.pe (noMarks hs)).weak fun σ H Q h => cmp_te rfl h) fun _ => (pt_cmpR ho ha.pe hb.pe (noMarks hs)).weak fun σ H Q h => cmp_te rfl h
theorem s_isN {neg : Bool} {a : IE} {l : Expr} {p p' : Pos} {k : Nat} (ha : Sound X S l a) : Sound X S (.Compare l [if neg then .IsNot else .Is] [.Constant .none k p'] p) (.isN neg a) := by
  have key : ∀ {σ : L2.St} {H : Hp} {Q : VK}, TE' X.K (fun Q st => wpE S a (fun o st1 => ∃ d, o.val = .dat d ∧ Q ⟨.frz, .dat (.bool (if neg then !nonD d else nonD d))⟩ st1) st) σ H Q →
      TE' X.K (wpE S a) σ H fun x H1 => Q (.bl (if neg then !decide (x = .non) else decide (x = .non))) H1 := by
    rintro σ H Q ⟨ρ, st, W, P, r, w, k⟩
    refine ⟨ρ, st, W, _, r, w, fun o st1 ρ1 W1 H1 x p1 s1 t1 => ?_⟩
    obtain ⟨d, e, q⟩ := p1
    have hx : decide (x = V.non) = nonD d := by
      by_cases f : isFresh d = false
      · have := t1.sc s1.rel e f
        cases this <;> simp [nonD]
      · have : ∃ a, x = .ref a := by
          obtain ⟨tag, val⟩ := o
          cases e
          cases tag with
          | frz =>
            have t1 : R W1 H1 x d := t1
            cases t1 <;> first
              | exact ⟨_, rfl⟩
              | simp [isFresh] at f
          | fre => obtain ⟨b, _, _, e, _⟩ := t1; exact ⟨b, e⟩
          | slot i =>
            obtain ⟨b, _, _, e, _⟩ := s1.rel.ow i _ t1.1
            have := t1.2
            rw [e] at this
            cases this
            exact ⟨b, rfl⟩
        obtain ⟨b, rfl⟩ := this
        cases d <;> first
          | rfl
          | simp [isFresh] at f
    rw [hx]
    exact k _ _ _ _ _ _ q s1 (.bl _)
  cases neg with
  | true => exact Sound.both rfl ((pe_cmp (pc_notN ha.pe) rfl).weak fun σ H Q h => key h) fun _ => (pt_cmp (pc_notN ha.pe) rfl).weak fun σ H Q h => key h
  | false => exact Sound.both rfl ((pe_cmp (pc_isN ha.pe) rfl).weak fun σ H Q h => key h) fun _ => (pt_cmp (pc_isN ha.pe) rfl).weak fun σ H Q h => key h
end
end Ev
end

section
set_option Elab.async false
set_option linter.all false
set_option maxRecDepth 100000
/-! Ev10: more expressions. -/
namespace Ev
open PySem PySem.Spec PyProof.Rows L2
section
variable {F : List String} {N : List Str} {S : SpecK} {X : Cx} {sc : Scope}

theorem s_neg {a : IE} {e : Expr} {p : Pos} (ha : Sound X S e a) : Sound X S (.UnaryOp .USub e p) (.neg a) := by
  refine Sound.plain rfl ((pe_un un_neg ha.pe).weak fun σ H Q h => ?_) rfl
  obtain ⟨ρ, st, W, P, r, w, k⟩ := h
  refine ⟨ρ, st, W, _, r, w, fun o st1 ρ1 W1 H1 x p1 s1 t1 => ?_⟩
  obtain ⟨i, e, q⟩ := p1
  exact ⟨i, t1.toInt s1.rel e, k _ _ _ _ _ _ q s1 (.int _)⟩
theorem s_nt {a : IE} {e : Expr} {p : Pos} (ha : Sound X S e a) (ht : testB e = true) : Sound X S (.UnaryOp .Not e p) (.nt a) where
  pe := (pe_not (ha.pb ht)).weak fun σ H Q h => by
    obtain ⟨ρ, st, W, P, r, w, k⟩ := h
    exact ⟨ρ, st, W, _, r, w, fun b st1 ρ1 W1 H1 p1 s1 => ⟨b, rfl, k _ _ _ _ _ _ p1 s1 (.bl _)⟩⟩
  pt := fun _ => (pt_not (ha.pt ht)).weak fun σ H Q h => by
    obtain ⟨ρ, st, W, P, r, w, k⟩ := h
    exact ⟨ρ, st, W, _, r, w, fun b st1 ρ1 W1 H1 p1 s1 => k _ _ _ _ _ p1 s1⟩
  pb := fun _ => (pe_not (ha.pb ht)).weak fun σ H Q h => by
    obtain ⟨ρ, st, W, P, r, w, k⟩ := h
    exact ⟨ρ, st, W, _, r, w, fun b st1 ρ1 W1 H1 p1 s1 => ⟨b, rfl, k _ _ _ _ _ p1 s1⟩⟩
/-- and, or: the parts from the left -/
structure SoundB (X : Cx) (S : SpecK) (op : BoolOp) (vs : List Expr) (es : IEs) : Prop where
  pw : ∀ p, PW X (.BoolOp op vs p) (TT' X.K (wpB S (andB op) es))
  pb : ∀ p, PE X (.BoolOp op vs p) (TB' X.K (wpB S (andB op) es))
theorem sb_one {op : BoolOp} {e : Expr} {a : IE} (ha : Sound X S e a) (ht : testB e = true) : SoundB X S op [e] (.cons a .nil) := by
  have wk : ∀ {P : Bool → Stt → Prop} {st : Stt}, wpB S (andB op) (.cons a .nil) P st → wpT S a (fun b st1 => if b = andB op then P (andB op) st1 else P (!andB op) st1) st := fun h => h
  have e1 : ∀ {P : Bool → Stt → Prop} {b : Bool} {st1 : Stt}, (if b = andB op then P (andB op) st1 else P (!andB op) st1) → P b st1 := by
    intro P b st1 h
    split at h
    · rename_i e; rw [e]; exact h
    · rename_i e
      have : b = !andB op := by cases b <;> cases h2 : andB op <;> simp_all
      rw [this]; exact h
  constructor
  · intro p
    have hw : PW X (.BoolOp op [e] p) (TT' X.K (wpT S a)) := by
      cases op
      · exact pw_and1 (ha.pt ht)
      · exact pw_or1 (ha.pt ht)
    refine hw.weak fun σ H Q h => ?_
    obtain ⟨ρ, st, W, P, r, w, k⟩ := h
    exact ⟨ρ, st, W, _, r, wk w, fun b st1 ρ1 W1 H1 p1 s1 => k _ _ _ _ _ (e1 p1) s1⟩
  · intro p
    refine (pe_one (ha.pb ht)).weak fun σ H Q h => ?_
    obtain ⟨ρ, st, W, P, r, w, k⟩ := h
    exact ⟨ρ, st, W, _, r, wk w, fun b st1 ρ1 W1 H1 p1 s1 => k _ _ _ _ _ (e1 p1) s1⟩
theorem sb_cons {op : BoolOp} {e e2 : Expr} {vs : List Expr} {a a2 : IE} {es : IEs} (ha : Sound X S e a) (ht : testB e = true) (hr : SoundB X S op (e2 :: vs) (.cons a2 es)) : SoundB X S op (e :: e2 :: vs) (.cons a (.cons a2 es)) := by
  have wk : ∀ {P : Bool → Stt → Prop} {st : Stt}, wpB S (andB op) (.cons a (.cons a2 es)) P st → wpT S a (fun b st1 => if b = andB op then wpB S (andB op) (.cons a2 es) P st1 else P (!andB op) st1) st := fun h => h
  cases op with
  | And =>
    constructor
    · intro p
      refine (pw_and (ha.pt ht) (hr.pw p)).weak fun σ H Q h => ?_
      obtain ⟨ρ, st, W, P, r, w, k⟩ := h
      refine ⟨ρ, st, W, _, r, wk w, fun b st1 ρ1 W1 H1 p1 s1 => ?_⟩
      cases b with
      | true => exact ⟨ρ1, st1, W1, P, s1.rel, p1, fun b st2 ρ2 W2 H2 p2 s2 => k _ _ _ _ _ p2 (s1.trans r s2)⟩
      | false => exact k _ _ _ _ _ p1 s1
    · intro p
      refine (pe_and (ha.pb ht) (hr.pb p)).weak fun σ H Q h => ?_
      obtain ⟨ρ, st, W, P, r, w, k⟩ := h
      refine ⟨ρ, st, W, _, r, wk w, fun b st1 ρ1 W1 H1 p1 s1 => ⟨b, rfl, ?_⟩⟩
      cases b with
      | true => exact ⟨ρ1, st1, W1, P, s1.rel, p1, fun b st2 ρ2 W2 H2 p2 s2 => k _ _ _ _ _ p2 (s1.trans r s2)⟩
      | false => exact k _ _ _ _ _ p1 s1
  | Or =>
    constructor
    · intro p
      refine (pw_or (ha.pt ht) (hr.pw p)).weak fun σ H Q h => ?_
      obtain ⟨ρ, st, W, P, r, w, k⟩ := h
      refine ⟨ρ, st, W, _, r, wk w, fun b st1 ρ1 W1 H1 p1 s1 => ?_⟩
      cases b with
      | false => exact ⟨ρ1, st1, W1, P, s1.rel, p1, fun b st2 ρ2 W2 H2 p2 s2 => k _ _ _ _ _ p2 (s1.trans r s2)⟩
      | true => exact k _ _ _ _ _ p1 s1
    · intro p
      refine (pe_or (ha.pb ht) (hr.pb p)).weak fun σ H Q h => ?_
      obtain ⟨ρ, st, W, P, r, w, k⟩ := h
      refine ⟨ρ, st, W, _, r, wk w, fun b st1 ρ1 W1 H1 p1 s1 => ⟨b, rfl, ?_⟩⟩
      cases b with
      | false => exact ⟨ρ1, st1, W1, P, s1.rel, p1, fun b st2 ρ2 W2 H2 p2 s2 => k _ _ _ _ _ p2 (s1.trans r s2)⟩
      | true => exact k _ _ _ _ _ p1 s1
theorem s_bop {op : BoolOp} {vs : List Expr} {es : IEs} {p : Pos} (h : SoundB X S op vs es) : Sound X S (.BoolOp op vs p) (.bop (andB op) es) where
  pe := (h.pb p).weak fun σ H Q h => by
    obtain ⟨ρ, st, W, P, r, w, k⟩ := h
    exact ⟨ρ, st, W, _, r, w, fun b st1 ρ1 W1 H1 p1 s1 => k _ _ _ _ _ _ p1 s1 (.bl _)⟩
  pt := fun _ => (h.pw p).pt
  pb := fun _ => h.pb p
theorem s_ife {c a b : IE} {c' a' b' : Expr} {p : Pos} (hc : Sound X S c' c) (ht : testB c' = true) (ha : Sound X S a' a) (hb : Sound X S b' b) : Sound X S (.IfExp c' a' b' p) (.ife c a b) := by
  refine Sound.both rfl ((pe_ifExp (hc.pt ht) ha.pe hb.pe).weak fun σ H Q h => ?_) (fun h => by simp [testB] at h)
  obtain ⟨ρ, st, W, P, r, w, k⟩ := h
  refine ⟨ρ, st, W, _, r, w, fun t st1 ρ1 W1 H1 p1 s1 => ?_⟩
  cases t with
  | true => exact ⟨ρ1, st1, W1, P, s1.rel, p1, fun o st2 ρ2 W2 H2 x p2 s2 t2 => k _ _ _ _ _ _ p2 (s1.trans r s2) (t2.start fun a n => s1.free n)⟩
  | false => exact ⟨ρ1, st1, W1, P, s1.rel, p1, fun o st2 ρ2 W2 H2 x p2 s2 t2 => k _ _ _ _ _ _ p2 (s1.trans r s2) (t2.start fun a n => s1.free n)⟩
/-- a op b op' c -/
theorem chain_te {op op' : CmpOp} {a b c : IE} {σ : L2.St} {H : Hp} {Q : VK} {v : PreE} (hv : wpX S (.chain op op' a b c) = both v) (h : TE' X.K v σ H Q) : tChain (rC (cmpA op)) (rC (cmpA op')) (TE' X.K (wpE S a)) (TE' X.K (wpE S b)) (TE' X.K (wpE S c)) σ H Q := by
  have hv := congrArg Prod.fst hv
  have hv : _ = v := hv
  subst hv
  obtain ⟨ρ, st, W, P, r, w, k⟩ := h
  refine ⟨ρ, st, W, _, r, w, fun o1 st1 ρ1 W1 H1 x p1 s1 t1 => ⟨ρ1, st1, W1, _, s1.rel, p1, fun o2 st2 ρ2 W2 H2 y p2 s2 t2 => ?_⟩⟩
  obtain ⟨ok, d1, d2, res, v1, v2, e, q⟩ := p2
  have t1 := t1.later s2 s1.rel ok
  refine ⟨W2, d1, d2, res, s2.rel.s.wn, t1.read s2.rel v1, t2.read s2.rel v2, e, ?_⟩
  cases res with
  | false => exact ⟨false, rfl, k _ _ _ _ _ _ q (s1.trans r s2) (.bl _)⟩
  | true =>
    refine ⟨true, rfl, ρ2, st2, W2, _, s2.rel, q, fun o3 st3 ρ3 W3 H3 z p3 s3 t3 => ?_⟩
    obtain ⟨ok2, d2', d3, r', u1, u2, e', q'⟩ := p3
    have t2 := t2.later s3 s2.rel ok2
    exact ⟨W3, d2', d3, r', s3.rel.s.wn, t2.read s3.rel u1, t3.read s3.rel u2, e', k _ _ _ _ _ _ q' ((s1.trans r s2).trans r s3) (.bl _)⟩
end
end Ev
end

section
set_option Elab.async false
set_option linter.all false
set_option maxRecDepth 100000
/-! Ev11: argument lists, displays, calls. -/
namespace Ev
open PySem PySem.Spec PyProof.Rows L2
section
variable {F : List String} {N : List Str} {S : SpecK} {X : Cx} {sc : Scope}

theorem s_chain {op op' : CmpOp} {a b c : IE} {l r q : Expr} {p : Pos} (x : XOk F N S X sc) (ha : Sound X S l a) (hb : Sound X S r b) (hc : Sound X S q c) (h1 : setB r = false) (h2 : setB q = false) :
    Sound X S (.Compare l [op, op'] [r, q] p) (.chain op op' a b c) := by
  have ho := or_cmp (X := X) (by have := x.room; omega) op
  have ho' := or_cmp (X := X) (by have := x.room; omega) op'
  have hm : lastMarks [op, op'] [r, q] = false := by
    show behindInMarks op' q = false
    exact noMarks h2
  exact Sound.both rfl ((pe_chain ho ho' ha.pe hb.pe hc.pe hm).weak fun σ H Q h => chain_te rfl h) fun _ => (pt_chain ho ho' ha.pe hb.pe hc.pe hm).weak fun σ H Q h => chain_te rfl h

/-! ### argument lists -/
def SoundA (X : Cx) (S : SpecK) (vs : List Expr) (es : IEs) : Prop := PA X vs (TA' X.K (wpA S es))
theorem sa_nil : SoundA X S [] .nil := pa_nil.weak fun σ H Q h => by
  obtain ⟨ρ, st, W, P, r, w, k⟩ := h
  exact k _ _ _ _ _ _ w r.refl .nil
theorem notStar {e : Expr} (h : starB e = false) (env : Env) (es : List Expr) : starEach (e :: es) env = (false, eval e env) :: starEach es env := by
  cases e <;> first
    | rfl
    | simp [starB] at h
theorem ROs.start {K : PySem.W.Frag} {ρ : List Addr} {env : List (Option EV)} {W : Addr → Prop} {σ : L2.St} {H H0 H00 : Hp} {os : List Out} {xs : List V} (h : ROs K ρ env W σ H H0 os xs) (hh : ∀ a, H0 a = none → H00 a = none) : ROs K ρ env W σ H H00 os xs := by
  induction h with
  | nil => exact .nil
  | cons a b c ih => exact .cons (RT.start (st := ⟨env, []⟩) a hh) ih c
theorem sa_cons {e : Expr} {vs : List Expr} {a : IE} {es : IEs} (ha : Sound X S e a) (hs : starB e = false) (hr : SoundA X S vs es) : SoundA X S (e :: vs) (.cons a es) := (pa_cons ha.pe hr (notStar hs _ _)).weak fun σ H Q h => by
  obtain ⟨ρ, st, W, P, r, w, k⟩ := h
  refine ⟨ρ, st, W, _, r, w, fun o st1 ρ1 W1 H1 x p1 s1 t1 => ⟨ρ1, st1, W1, _, s1.rel, p1, fun os st2 ρ2 W2 H2 xs p2 s2 t2 => ?_⟩⟩
  refine k _ _ _ _ _ _ p2.2 (s1.trans r s2) (.cons (t1.later s2 s1.rel p2.1) (t2.start fun a n => s1.free n) fun ht j o' x' h1 h2 h3 => ?_)
  rintro rfl
  obtain ⟨y, hy, rt⟩ := t2.get h1
  rw [h2] at hy; cases hy
  unfold RT at rt t1
  rw [h3] at rt
  rw [ht] at t1
  obtain ⟨b, d, _, e1, _, _, _, n⟩ := rt
  obtain ⟨b', d', _, e2, _, ro, _⟩ := t1
  rw [e1] at e2; cases e2
  exact ro.there n
theorem seq_of {K : PySem.W.Frag} {W : Addr → Prop} {H : Hp} {x : V} {d : D} {ds : List D} (h : RR W H x d) (e : seqD d = some ds) : ∃ a xs, x = .ref a ∧ (SqT K H a xs ∨ SqL K H a xs) ∧ RA W H xs ds := by
  cases d with
  | list es => cases e; obtain ⟨a, xs, rfl, e, r⟩ := h; exact ⟨a, xs, rfl, .inr (SqL.of e), r⟩
  | tuple es => cases e; obtain ⟨a, xs, rfl, w, e, r⟩ := h.tup; exact ⟨a, xs, rfl, .inl (SqT.of e), r⟩
  | _ => cases e
theorem ROs.frozen {K : PySem.W.Frag} {ρ : List Addr} {env : List (Option EV)} {W : Addr → Prop} {σ : L2.St} {H H0 : Hp} {os : List Out} {ys : List V} : ∀ {xs : List V} {ds : List D}, RA W H xs ds → ROs K ρ env W σ H H0 os ys →
    ROs K ρ env W σ H H0 (ds.map (fun d => ⟨.frz, .dat d⟩) ++ os) (xs ++ ys)
  | _, _, .nil, h => h
  | _, _, .cons a r, h => .cons a (ROs.frozen r h) fun z => nomatch z
theorem sa_star {e : Expr} {vs : List Expr} {a : IE} {es : IEs} {p : Pos} (ha : Sound X S e a) (hr : SoundA X S vs es) : SoundA X S (.Starred e p :: vs) (.star a es) := (StX.pa_star ha.pe hr).weak fun σ H Q h => by
  obtain ⟨ρ, st, W, P, r, w, k⟩ := h
  refine ⟨ρ, st, W, _, r, w, fun o st1 ρ1 W1 H1 x p1 s1 t1 => ?_⟩
  obtain ⟨d, ds, v1, e1, q1⟩ := p1
  obtain ⟨b, xs, rfl, hq, ra⟩ := seq_of (K := X.K) (t1.read s1.rel v1) e1
  exact ⟨b, xs, rfl, hq, ρ1, st1, W1, _, s1.rel, q1, fun os st2 ρ2 W2 H2 ys p2 s2 t2 => k _ _ _ _ _ _ p2 (s1.trans r s2) (ROs.frozen (ra.pres s2.fr.keep) (t2.start fun a n => s1.free n))⟩

/-! ### displays -/
theorem datsV_get : ∀ {vs : List Val} {ds : List D}, datsV vs = some ds → vs = ds.map Val.dat
  | [], ds, h => by simp only [datsV] at h; cases h; rfl
  | v :: vs, ds, h => by
    cases v with
    | dat d =>
      simp only [datsV] at h
      obtain ⟨es, h1, rfl⟩ := Option.map_eq_some_iff.mp h
      rw [datsV_get h1]; rfl
    | _ => simp [datsV] at h
theorem RA.of_vals {K : PySem.W.Frag} {ρ : List Addr} {W : Addr → Prop} {H : Hp} : ∀ {os : List Out} {xs : List V} {ds : List D}, os.length = xs.length → os.map (·.val) = ds.map Val.dat →
    (∀ (k : Nat) (o : Out), os[k]? = some o → ∃ x, xs[k]? = some x ∧ RVal K ρ W H o.val x) → RA W H xs ds
  | [], [], [], _, _, _ => .nil
  | [], [], _ :: _, _, h, _ => by simp at h
  | o :: os, x :: xs, d :: ds, hl, h, f => by
    simp only [List.map_cons, List.cons.injEq] at h
    obtain ⟨y, hy, rv⟩ := f 0 o rfl
    simp at hy
    subst hy
    rw [h.1] at rv
    exact .cons rv (RA.of_vals (by simpa using hl) h.2 fun k o' ho => by simpa using f (k + 1) o' (by simpa using ho))
  | _ :: _, [], _, hl, _, _ => by simp at hl
  | [], _ :: _, _, hl, _, _ => by simp at hl
  | _ :: _, _ :: _, [], _, h, _ => by simp at h
theorem fz_all {K : PySem.W.Frag} {ρ0 ρ : List Addr} {st0 st : Stt} {W0 W : Addr → Prop} {σ : L2.St} {H0 H : Hp} {os : List Out} {xs : List V} {ds : List D} (r0 : Rel K ρ0 st0 W0 σ H0) (s : Step K ρ0 st0 W0 σ H0 ρ st W σ H)
    (h : ROs K ρ st.env W σ H H0 os xs) (e : dats os = some ds) : ∃ W', Step K ρ0 st0 W0 σ H0 ρ (frzA os st) W' σ H ∧ RA W' H xs ds := by
  obtain ⟨W', s', _, _, f⟩ := freeze r0 s h
  exact ⟨W', s', RA.of_vals h.length (datsV_get e) f⟩
theorem s_tup {vs : List Expr} {es : IEs} {k : Nat} {p : Pos} (h : SoundA X S vs es) : Sound X S (.Tuple vs k p) (.tup es) := by
  refine Sound.plain rfl ((pe_tup h).weak fun σ H Q h => ?_) rfl
  obtain ⟨ρ, st, W, P, r, w, k⟩ := h
  refine ⟨ρ, st, W, _, r, w, fun os st1 ρ1 W1 H1 xs p1 s1 t1 => ?_⟩
  obtain ⟨ds, e, hl, q⟩ := p1
  obtain ⟨W', s2, ra⟩ := fz_all r s1 t1 e
  refine ⟨by rw [ra.length, sl_eq]; exact hl, fun p hp => ?_⟩
  obtain ⟨W2, s3, t3⟩ := (ra.newT hp s2.rel.s.wn).step s2.rel (fun a n => s2.free n)
  exact k _ _ _ _ _ _ q (s2.trans r s3) t3
theorem s_lst {vs : List Expr} {es : IEs} {p : Pos} (h : SoundA X S vs es) : Sound X S (.List vs p) (.lst es) := by
  refine Sound.plain rfl ((pe_lst h).weak fun σ H Q h => ?_) rfl
  obtain ⟨ρ, st, W, P, r, w, k⟩ := h
  refine ⟨ρ, st, W, _, r, w, fun os st1 ρ1 W1 H1 xs p1 s1 t1 => ?_⟩
  obtain ⟨ds, e, hl, q⟩ := p1
  obtain ⟨W', s2, ra⟩ := fz_all r s1 t1 e
  refine ⟨by rw [ra.length, sl_eq]; exact hl, fun p hp => ?_⟩
  obtain ⟨W2, s3, t3⟩ := (ra.newL hp).step s2.rel (fun a n => s2.free n)
  exact k _ _ _ _ _ _ q (s2.trans r s3) t3
theorem s_dnew {t : Bool} {p : Pos} : Sound X S (.Dict [] [] p) (.dnew t) := by
  refine Sound.plain rfl (pe_dnewK.weak fun σ H Q h => ?_) rfl
  obtain ⟨ρ, st, W, P, r, w, k⟩ := h
  intro p hp
  have res : Res W H (upd H p (.dK [])) (.ref p) (.dict []) := ⟨Ext.upd hp, p, rfl, hp, .inl ⟨[], upd_same, rfl, .nil⟩⟩
  obtain ⟨W2, s3, t3⟩ := res.step r (fun a n => n)
  exact k _ _ _ _ _ _ w s3 t3

/-! ### built-ins -/
theorem s_type {x : Str} {T : String} {f : List D → Option D} {vs : List Expr} {es : IEs} {p p' : Pos} {ie : IE} (c : XOk F N S X sc) (hc : CallR X (.type T) (rB f)) (hx : x ∈ bltNames) (hg : glB sc x = true) (hv : bootBuiltins x = some (.type T))
    (h : SoundA X S vs es) (h0 : vs.isEmpty = false) (hs : starless vs = true) (n1 : x ≠ "__name__") (n2 : (x == ("__debug__" : Str)) = false)
    (hie : wpX S ie = both fun Q st => wpA S es (fun os st1 => ∃ ds r, views st1.sto os = some ds ∧ f ds = some r ∧ Q (outD r) st1) st) : Sound X S (.Call (.Name x p) vs [] p') ie := by
  cases vs with
  | nil => simp at h0
  | cons e vs =>
    obtain ⟨h1, h2⟩ := starless_cons hs X.env
    refine Sound.plain hie ((pe_callTy hc (c.glOk hg) (c.blt x hx) hv h n1 n2 h1 (starless_back h2 _ _)).weak fun σ H Q h => ?_) rfl
    obtain ⟨ρ, st, W, P, r, w, k⟩ := h
    refine ⟨ρ, st, W, _, r, w, fun os st1 ρ1 W1 H1 xs p1 s1 t1 => ?_⟩
    obtain ⟨ds, res, e1, e2, q⟩ := p1
    refine ⟨W1, ds, res, s1.rel.s.wn, t1.read s1.rel e1, e2, fun z H' hz => ?_⟩
    obtain ⟨W2, s2, t2⟩ := hz.step s1.rel (fun a n => s1.free n)
    exact k _ _ _ _ _ _ q (s1.trans r s2) t2
theorem s_blt {x : Str} {id : String} {f : List D → Option D} {vs : List Expr} {es : IEs} {p p' : Pos} {ie : IE} (c : XOk F N S X sc) (hc : CallR X (.builtin id) (rB f)) (hx : x ∈ bltNames) (hg : glB sc x = true) (hv : bootBuiltins x = some (.builtin id))
    (h : SoundA X S vs es) (h0 : vs.isEmpty = false) (hs : starless vs = true) (n1 : x ≠ "__name__") (n2 : (x == ("__debug__" : Str)) = false)
    (hie : wpX S ie = both fun Q st => wpA S es (fun os st1 => ∃ ds r, views st1.sto os = some ds ∧ f ds = some r ∧ Q (outD r) st1) st) : Sound X S (.Call (.Name x p) vs [] p') ie := by
  cases vs with
  | nil => simp at h0
  | cons e vs =>
    obtain ⟨h1, h2⟩ := starless_cons hs X.env
    refine Sound.plain hie ((pe_callB hc (c.glOk hg) (c.blt x hx) hv h n1 n2 h1 (starless_back h2 _ _)).weak fun σ H Q h => ?_) rfl
    obtain ⟨ρ, st, W, P, r, w, k⟩ := h
    refine ⟨ρ, st, W, _, r, w, fun os st1 ρ1 W1 H1 xs p1 s1 t1 => ?_⟩
    obtain ⟨ds, res, e1, e2, q⟩ := p1
    refine ⟨W1, ds, res, s1.rel.s.wn, t1.read s1.rel e1, e2, fun z H' hz => ?_⟩
    obtain ⟨W2, s2, t2⟩ := hz.step s1.rel (fun a n => s1.free n)
    exact k _ _ _ _ _ _ q (s1.trans r s2) t2
end
end Ev
end

section
set_option Elab.async false
set_option linter.all false
set_option maxRecDepth 100000
/-! Ev12: calls of defs; what is behind a call. -/
namespace Ev
open PySem PySem.Spec PyProof.Rows L2

section
variable {K : PySem.W.Frag} {ρ ρ2 : List Addr} {st : Stt} {sto' : List SObj} {W W2 : Addr → Prop} {σ : L2.St} {H H2 : Hp}
theorem Rel.called (r : Rel K ρ st W σ H) (s : SRel ρ2 sto' W2 H2) (f : Fr' (· ∈ ρ) W H W2 H2) (p : ρ <+: ρ2) (n : ∀ a ∈ ρ2, a ∈ ρ ∨ H a = none) : Step K ρ st W σ H ρ2 { st with sto := sto' } W2 σ H2 := by
  have out : ∀ a, H a ≠ none → a ∉ ρ → a ∉ ρ2 := fun a h1 h2 h3 => (n a h3).elim h2 h1
  refine ⟨⟨s, r.len, fun i v h => ?_, fun i v h => ?_, r.ap⟩, ⟨f.keep, fun a w l => f.hold a w fun z => l (.inl z), f.there⟩, p, fun a l => ?_⟩
  · obtain ⟨x, h1, h2⟩ := r.fz i v h
    exact ⟨x, h1, h2.pres f.keep p⟩
  · obtain ⟨a, d, h1, h2, h3, h4, h5⟩ := r.ow i v h
    obtain ⟨w, e⟩ := f.hold a h3 h5
    exact ⟨a, d, h1, h2, w, h4.pres f.keep e, out a h4.there h5⟩
  · rcases l with l | l
    · rcases n a l with q | q
      · exact .inl (.inl q)
      · exact .inr q
    · exact .inl (.inr l)
theorem Adr.in_W {ρ0 : List Addr} {H0 : Hp} {os : List Out} {xs : List V} (r : Rel K ρ st W σ H) (h : ROs K ρ st.env W σ H H0 os xs) {a : Addr} (z : Adr os xs a) : W a ∧ H a ≠ none ∧ a ∉ ρ := by
  obtain ⟨k, o, hk, hx, ht⟩ := z
  obtain ⟨x, hx', rt⟩ := h.get hk
  rw [hx] at hx'; cases hx'
  unfold RT at rt
  rcases ht with ht | ⟨i, ht⟩
  · rw [ht] at rt
    obtain ⟨b, d, _, e, w, ro, l, _⟩ := rt
    cases e
    exact ⟨w, ro.there, fun z => l (.inl z)⟩
  · rw [ht] at rt
    obtain ⟨b, d, _, e, w, ro, l⟩ := r.ow i _ rt.1
    have q := rt.2
    rw [e] at q; cases q
    exact ⟨w, ro.there, l⟩
/-- behind a call whose answer is scalar the arguments may be written as before -/
theorem Rel.calledS {W' : Addr → Prop} {H0 : Hp} {os : List Out} {xs : List V} (r : Rel K ρ st W σ H) (h : ROs K ρ st.env W σ H H0 os xs) (hW : ∀ a, W' a ↔ W a ∧ ¬ Adr os xs a)
    (s : SRel ρ2 sto' W2 H2) (f : Fr' (· ∈ ρ) W' H W2 H2) (p : ρ <+: ρ2) (n : ∀ a ∈ ρ2, a ∈ ρ ∨ H a = none) : Step K ρ st W σ H ρ2 { st with sto := sto' } (fun a => W2 a ∨ Adr os xs a) σ H2 := by
  have ad : ∀ a, Adr os xs a → W a ∧ H a ≠ none ∧ a ∉ ρ := fun a z => Adr.in_W (ρ0 := ρ) r h z
  have keepA : ∀ a, Adr os xs a → H2 a = H a := fun a z => by
    cases q : H a with
    | none => exact absurd q (ad a z).2.1
    | some o => exact (f.keep a o (fun y => ((hW a).mp y).2 z) q).2
  have out : ∀ a, H a ≠ none → a ∉ ρ → a ∉ ρ2 := fun a h1 h2 h3 => (n a h3).elim h2 h1
  have pr : Pres W H (fun a => W2 a ∨ Adr os xs a) H2 := fun a o w e => by
    obtain ⟨w2, e2⟩ := f.keep a o (fun y => w ((hW a).mp y).1) e
    exact ⟨fun z => z.elim w2 fun y => w (ad a y).1, e2⟩
  refine ⟨⟨⟨s.len, s.nd, fun j o a h1 h2 => ?_, fun a w => ?_⟩, r.len, fun i v h' => ?_, fun i v h' => ?_, r.ap⟩, ⟨pr, fun a w l => ?_, f.there⟩, p, fun a l => ?_⟩
  · obtain ⟨w, q⟩ := s.at_ j o a h1 h2
    exact ⟨.inl w, q⟩
  · rcases w with w | w
    · exact s.wn a w
    · show H2 a ≠ none
      rw [keepA a w]; exact (ad a w).2.1
  · obtain ⟨x, h1, h2⟩ := r.fz i v h'
    exact ⟨x, h1, h2.pres pr p⟩
  · obtain ⟨a, d, h1, h2, h3, h4, h5⟩ := r.ow i v h'
    by_cases z : Adr os xs a
    · exact ⟨a, d, h1, h2, .inr z, h4.pres pr (keepA a z), out a h4.there h5⟩
    · obtain ⟨w, e⟩ := f.hold a ((hW a).mpr ⟨h3, z⟩) h5
      exact ⟨a, d, h1, h2, .inl w, h4.pres pr e, out a h4.there h5⟩
  · by_cases z : Adr os xs a
    · exact ⟨.inr z, keepA a z⟩
    · obtain ⟨w2, e⟩ := f.hold a ((hW a).mpr ⟨w, z⟩) fun y => l (.inl y)
      exact ⟨.inl w2, e⟩
  · rcases l with l | l
    · rcases n a l with q | q
      · exact .inl (.inl q)
      · exact .inr q
    · exact .inl (.inr l)
theorem RVal.scalar {ρ ρ' : List Addr} {W W' : Addr → Prop} {H H' : Hp} {v : Val} {x : V} (h : RVal K ρ W H v x) (e : scalarV v = true) : RVal K ρ' W' H' v x := by
  cases v with
  | dat d =>
    have h : R W H x d := h
    cases d with
    | none => cases h; exact R.non
    | bool b => cases h; exact R.bl b
    | int b => cases h; exact R.int b
    | str b => cases h; exact R.str b
    | _ => simp [scalarV] at e
  | _ => simp [scalarV] at e
end

section
variable {W Z : Addr → Prop} {H : Hp}
mutual
theorem R.keep (hz : ∀ a, Z a → ∀ xs, H a ≠ some (.tup xs)) : ∀ (d : D) (x : V), tupV d = true → R W H x d → R (fun a => W a ∨ Z a) H x d
  | _, _, _, .non => .non
  | _, _, _, .bl b => .bl b
  | _, _, _, .int i => .int i
  | _, _, _, .str x => .str x
  | .tuple ds, _, e, .tup w h r => .tup (fun z => z.elim w fun y => hz _ y _ h) h (RA.keep hz ds _ (by simpa [tupV] using e) r)
  | .list _, _, e, .lst _ _ _ => by simp [tupV] at e
  | .dict _, _, e, .dK _ _ _ _ => by simp [tupV] at e
  | .dict _, _, e, .dT _ _ _ _ => by simp [tupV] at e
theorem RA.keep (hz : ∀ a, Z a → ∀ xs, H a ≠ some (.tup xs)) : ∀ (ds : List D) (xs : List V), tupVs ds = true → RA W H xs ds → RA (fun a => W a ∨ Z a) H xs ds
  | _, _, _, .nil => .nil
  | d :: ds, _, e, .cons a r => by
    simp only [tupVs, Bool.and_eq_true] at e
    exact .cons (R.keep hz d _ e.1 a) (RA.keep hz ds _ e.2 r)
end
end
section
variable {K : PySem.W.Frag} {ρ : List Addr} {st : Stt} {W : Addr → Prop} {σ : L2.St} {H : Hp}
theorem RO.noTup {a : Addr} {d : D} (h : RO W H a d) (xs : List V) : H a ≠ some (.tup xs) := by
  cases d with
  | list ds => obtain ⟨ys, e, _⟩ := h; rw [e]; simp
  | dict es => rcases h with ⟨k, e, _⟩ | ⟨k, e, _⟩ <;> (rw [e]; simp)
  | _ => exact h.elim
theorem Adr.noTup {H0 : Hp} {os : List Out} {xs : List V} (r : Rel K ρ st W σ H) (h : ROs K ρ st.env W σ H H0 os xs) {a : Addr} (z : Adr os xs a) (ys : List V) : H a ≠ some (.tup ys) := by
  obtain ⟨k, o, hk, hx, ht⟩ := z
  obtain ⟨x, hx', rt⟩ := h.get hk
  rw [hx] at hx'; cases hx'
  unfold RT at rt
  rcases ht with ht | ⟨i, ht⟩
  · rw [ht] at rt
    obtain ⟨b, d, _, e, w, ro, l, _⟩ := rt
    cases e
    exact ro.noTup ys
  · rw [ht] at rt
    obtain ⟨b, d, _, e, w, ro, l⟩ := r.ow i _ rt.1
    have q := rt.2
    rw [e] at q; cases q
    exact ro.noTup ys
end

section
variable {F : List String} {N : List Str} {S : SpecK} {X : Cx} {sc : Scope}
theorem pairedOf {α β : Type} {R : α → β → Prop} : ∀ {as : List α} {bs : List β}, as.length = bs.length → (∀ (k : Nat) (a : α), as[k]? = some a → ∃ b, bs[k]? = some b ∧ R a b) → Paired R as bs
  | [], [], _, _ => .nil
  | [], _ :: _, h, _ => by simp at h
  | _ :: _, [], h, _ => by simp at h
  | a :: as, b :: bs, h, f => by
    obtain ⟨b', h1, h2⟩ := f 0 a rfl
    simp at h1
    subst h1
    exact .cons h2 (pairedOf (by simpa using h) fun k a' h' => by simpa using f (k + 1) a' (by simpa using h'))
theorem s_call {f : String} {x : Str} {vs : List Expr} {es : IEs} {p p' : Pos} (c : XOk F N S X sc) (hx : x = Str.ofString f) (hf : F.contains f = true) (hg : glB sc x = true) (hn : okN x = true) (h0 : vs.isEmpty = false) (hs : starless vs = true)
    (h : SoundA X S vs es) : Sound X S (.Call (.Name x p) vs [] p') (.call f es) := by
  have hn : ((x == ("__debug__" : Str)) = false ∧ (x == ("__classdict__" : Str)) = false) ∧ (x == ("__name__" : Str)) = false := by simpa [okN] using hn
  cases vs with
  | nil => simp at h0
  | cons e vs =>
    obtain ⟨k, a, fd, ps, mg, kp, bd, fn, rm⟩ := c.call f hf
    refine Sound.plain rfl ((pe_callG fn rm c.guards (c.glOk hg) (by rw [hx]; exact mg) kp bd hn.1.1 h hs).weak fun σ H Q hw => ?_) rfl
    obtain ⟨ρ, st, W, P, r, w, kk⟩ := hw
    refine ⟨ρ, st, W, _, r, w, fun os st1 ρ1 W1 H1 xs p1 s1 t1 => ?_⟩
    obtain ⟨W', s2, pr2, hW, fz⟩ := freeze r s1 t1
    have hst : (frzA os st1).sto = st1.sto := by rw [frzA_eq]
    refine ⟨ρ1, st1.sto, W', os.map (·.val), _, by rw [← hst]; exact s2.rel.s, pairedOf (by simpa using t1.length) (fun j v hv => ?_), p1, fun res sto' z ρ2 W2 H2 q sr fr pf nw rr => ?_⟩
    · rw [List.getElem?_map] at hv
      obtain ⟨o, ho, rfl⟩ := Option.map_eq_some_iff.mp hv
      exact fz j o ho
    · by_cases hsc : scalarV res.val = true
      · rw [if_pos hsc] at q
        have st3 := s1.rel.calledS t1 hW sr fr pf nw
        refine kk _ _ _ _ _ _ q (s1.trans r st3) ?_
        unfold RRet at rr
        by_cases ho : res.own = true
        · rw [if_pos ho] at rr
          obtain ⟨b, d, e1, _, _, ro, _⟩ := rr
          rw [e1] at hsc
          cases d <;> first
            | exact ro.elim
            | simp [scalarV] at hsc
        · rw [if_neg ho] at rr ⊢
          exact RVal.scalar rr hsc
      · rw [if_neg hsc] at q
        have st3 := s2.rel.called sr fr pf nw
        refine kk _ _ _ _ _ _ q (s2.trans r st3) ?_
        unfold RRet at rr
        by_cases ho : res.own = true
        · rw [if_pos ho] at rr ⊢
          obtain ⟨b, d, e1, e2, w2, ro, nr, hnone⟩ := rr
          refine ⟨b, d, e1, e2, w2, ro, fun l => ?_, s1.free hnone⟩
          rcases l with l | ⟨i, val, l1, l2⟩
          · exact nr l
          · exact (Lc.there s2.rel (.inr ⟨i, val, l1, l2⟩)).2 hnone
        · rw [if_neg ho] at rr ⊢
          exact rr
theorem s_callK {f : String} {x : Str} {vs : List Expr} {es : IEs} {p p' : Pos} (c : XOk F N S X sc) (hx : x = Str.ofString f) (hf : F.contains f = true) (hg : glB sc x = true) (hn : okN x = true) (h0 : vs.isEmpty = false) (hs : starless vs = true)
    (h : SoundA X S vs es) : Sound X S (.Call (.Name x p) vs [] p') (.callK f es) := by
  have hn : ((x == ("__debug__" : Str)) = false ∧ (x == ("__classdict__" : Str)) = false) ∧ (x == ("__name__" : Str)) = false := by simpa [okN] using hn
  cases vs with
  | nil => simp at h0
  | cons e vs =>
    obtain ⟨k, a, fd, ps, mg, kp, bd, fn, rm⟩ := c.call f hf
    refine Sound.plain rfl ((pe_callG fn rm c.guards (c.glOk hg) (by rw [hx]; exact mg) kp bd hn.1.1 h hs).weak fun σ H Q hw => ?_) rfl
    obtain ⟨ρ, st, W, P, r, w, kk⟩ := hw
    refine ⟨ρ, st, W, _, r, w, fun os st1 ρ1 W1 H1 xs p1 s1 t1 => ?_⟩
    obtain ⟨W', s2, pr2, hW, fz⟩ := freeze r s1 t1
    have hst : (frzA os st1).sto = st1.sto := by rw [frzA_eq]
    refine ⟨ρ1, st1.sto, W', os.map (·.val), _, by rw [← hst]; exact s2.rel.s, pairedOf (by simpa using t1.length) (fun j v hv => ?_), p1, fun res sto' z ρ2 W2 H2 q sr fr pf nw rr => ?_⟩
    · rw [List.getElem?_map] at hv
      obtain ⟨o, ho, rfl⟩ := Option.map_eq_some_iff.mp hv
      exact fz j o ho
    · obtain ⟨hk, q⟩ := q
      have st3 := s1.rel.calledS t1 hW sr fr pf nw
      have hz : ∀ b, Adr os xs b → ∀ ys, H2 b ≠ some (.tup ys) := fun b hb ys => by
        have e2 : H2 b = H1 b := by
          cases q : H1 b with
          | none => exact absurd q (Adr.in_W (ρ0 := ρ1) s1.rel t1 hb).2.1
          | some o => exact (fr.keep b o (fun y => ((hW b).mp y).2 hb) q).2
        rw [e2]
        exact Adr.noTup s1.rel t1 hb ys
      refine kk _ _ _ _ _ _ q (s1.trans r st3) ?_
      unfold RRet at rr
      by_cases ho : res.own = true
      · rw [if_pos ho] at rr ⊢
        obtain ⟨b, d, e1, e2, w2, ro, nr, hnone⟩ := rr
        obtain ⟨ow, vl⟩ := res
        simp only at ho e1
        subst ho e1
        cases d with
        | list ds =>
          obtain ⟨ys, g1, g2⟩ := ro
          refine ⟨b, .list ds, rfl, e2, .inl w2, ⟨ys, g1, RA.keep hz ds ys hk g2⟩, fun l => ?_, s1.free hnone⟩
          rcases l with l | ⟨i, val, l1, l2⟩
          · exact nr l
          · exact (Lc.there s1.rel (.inr ⟨i, val, l1, l2⟩)).2 hnone
        | dict es =>
          rcases ro with ⟨kvs, g1, k1, g2⟩ | ⟨kvs, g1, k1, g2⟩
          · refine ⟨b, .dict es, rfl, e2, .inl w2, .inl ⟨kvs, g1, k1, RA.keep hz _ _ hk g2⟩, fun l => ?_, s1.free hnone⟩
            rcases l with l | ⟨i, val, l1, l2⟩
            · exact nr l
            · exact (Lc.there s1.rel (.inr ⟨i, val, l1, l2⟩)).2 hnone
          · refine ⟨b, .dict es, rfl, e2, .inl w2, .inr ⟨kvs, g1, k1, RA.keep hz _ _ hk g2⟩, fun l => ?_, s1.free hnone⟩
            rcases l with l | ⟨i, val, l1, l2⟩
            · exact nr l
            · exact (Lc.there s1.rel (.inr ⟨i, val, l1, l2⟩)).2 hnone
        | _ => simp [keepE] at hk
      · rw [if_neg ho] at rr ⊢
        obtain ⟨ow, vl⟩ := res
        have ho : ow = false := by simpa using ho
        subst ho
        cases vl with
        | dat d => exact R.keep hz d _ hk rr
        | _ => simp [keepE] at hk
end
end Ev
end

section
set_option Elab.async false
set_option linter.all false
set_option maxRecDepth 100000
/-! Ev13: built-ins by name, items, slices, what changes a list. -/
namespace Ev
open PySem PySem.Spec PyProof.Rows L2
section
variable {F : List String} {N : List Str} {S : SpecK} {X : Cx} {sc : Scope}

theorem s_bcl {f : BF} {x : Str} {vs : List Expr} {es : IEs} {p p' : Pos} (c : XOk F N S X sc) (hx : x = f.nm) (hg : glB sc x = true) (h0 : vs.isEmpty = false) (hs : starless vs = true) (h : SoundA X S vs es) :
    Sound X S (.Call (.Name x p) vs [] p') (.bcl f es) := by
  subst hx
  cases f with
  | len => exact s_blt (id := "len") c cr_lenD (by decide) hg (by decide +kernel) h h0 hs (by decide) (by decide) rfl
  | abs => exact s_blt (id := "abs") c cr_absD (by decide) hg (by decide +kernel) h h0 hs (by decide) (by decide) rfl
  | int => exact s_type (T := "int") c cr_intD (by decide) hg (by decide +kernel) h h0 hs (by decide) (by decide) rfl
  | max => exact s_blt (id := "max") c (cr_maxD c.calm) (by decide) hg (by decide +kernel) h h0 hs (by decide) (by decide) rfl
  | min => exact s_blt (id := "min") c (cr_minD c.calm c.room) (by decide) hg (by decide +kernel) h h0 hs (by decide) (by decide) rfl
  | sum => exact s_blt (id := "sum") c (cr_sumD2 c.calm) (by decide) hg (by decide +kernel) h h0 hs (by decide) (by decide) rfl
  | any => exact s_blt (id := "any") c (cr_anyD c.calm) (by decide) hg (by decide +kernel) h h0 hs (by decide) (by decide) rfl
  | all => exact s_blt (id := "all") c (cr_allD c.calm) (by decide) hg (by decide +kernel) h h0 hs (by decide) (by decide) rfl
  | tuple => exact s_type (T := "tuple") c cr_tupD (by decide) hg (by decide +kernel) h h0 hs (by decide) (by decide) rfl
  | list => exact s_type (T := "list") c (cr_lstD2 c.calm) (by decide) hg (by decide +kernel) h h0 hs (by decide) (by decide) rfl
  | repr => exact s_blt (id := "repr") c (cr_repD c.guards c.room) (by decide) hg (by decide +kernel) h h0 hs (by decide) (by decide) rfl
  | sorted => exact s_blt (id := "sorted") c (cr_sortD2 c.calm c.room) (by decide) hg (by decide +kernel) h h0 hs (by decide) (by decide) rfl
  | dict => exact s_type (T := "dict") c (cr_dictD c.calm) (by decide) hg (by decide +kernel) h h0 hs (by decide) (by decide) rfl
theorem pe_tyN {t : TF} {y : Str} {p : Pos} (c : XOk F N S X sc) (hy : y = t.nm) (hg : glB sc y = true) : PE X (.Name y p) (tC (.ty t.name)) := by
  subst hy
  cases t with
  | int => exact pe_bltn (c.glOk hg) (c.blt _ (by decide)) (u := .type "int") (by decide +kernel) rfl (by decide) (by decide)
  | bool => exact pe_bltn (c.glOk hg) (c.blt _ (by decide)) (u := .type "bool") (by decide +kernel) rfl (by decide) (by decide)
  | str => exact pe_bltn (c.glOk hg) (c.blt _ (by decide)) (u := .type "str") (by decide +kernel) rfl (by decide) (by decide)
  | tuple => exact pe_bltn (c.glOk hg) (c.blt _ (by decide)) (u := .type "tuple") (by decide +kernel) rfl (by decide) (by decide)
  | list => exact pe_bltn (c.glOk hg) (c.blt _ (by decide)) (u := .type "list") (by decide +kernel) rfl (by decide) (by decide)
  | dict => exact pe_bltn (c.glOk hg) (c.blt _ (by decide)) (u := .type "dict") (by decide +kernel) rfl (by decide) (by decide)
theorem s_isi {a : IE} {t : TF} {x y : Str} {v : Expr} {p p' p2 : Pos} (c : XOk F N S X sc) (hx : x = "isinstance") (hg : glB sc x = true) (hy : y = t.nm) (hgy : glB sc y = true) (ha : Sound X S v a) (hs : starB v = false) :
    Sound X S (.Call (.Name x p) [v, .Name y p2] [] p') (.isi a t) := by
  subst hx
  refine Sound.plain rfl ((pe_callB (cr_isiD t) (c.glOk hg) (c.blt _ (by decide)) (by decide +kernel) (pa_cons ha.pe (pa_cons (pe_tyN c hy hgy) pa_nil (notStar rfl _ _)) (notStar hs _ _)) (by decide) (by decide) (notStar hs _ _) (by rw [notStar (e := .Name y p2) rfl]; rfl)).weak fun σ H Q h => ?_) rfl
  obtain ⟨ρ, st, W, P, r, w, k⟩ := h
  refine ⟨ρ, st, W, _, r, w, fun o st1 ρ1 W1 H1 x p1 s1 t1 => ?_⟩
  obtain ⟨d, e, q⟩ := p1
  exact ⟨W1, x, d, rfl, t1.read s1.rel e, k _ _ _ _ _ _ q s1 (.bl _)⟩

/-! ### items -/
theorem getS_te {σ : L2.St} {H : Hp} {Q : VK} {o i : IE} (h : TE' X.K (fun Q st => wpE S o (fun oo st1 => wpE S i (fun oi st2 => okO oo st2 ∧ ∃ r, getS st2.sto oo.val oi.val = some r ∧ Q r st2) st1) st) σ H Q) :
    tOp (fun x y H Q => rIdx x y H Q ∨ rFldK x y H Q) (TE' X.K (wpE S o)) (TE' X.K (wpE S i)) σ H Q := by
  obtain ⟨ρ, st, W, P, r, w, k⟩ := h
  refine ⟨ρ, st, W, _, r, w, fun o1 st1 ρ1 W1 H1 x p1 s1 t1 => ⟨ρ1, st1, W1, _, s1.rel, p1, fun o2 st2 ρ2 W2 H2 y p2 s2 t2 => ?_⟩⟩
  obtain ⟨ok, res, e, q⟩ := p2
  have t1 := t1.later s2 s1.rel ok
  unfold getS at e
  split at e
  · rename_i d kd ev1 ev2
    obtain ⟨r0, e1, rfl⟩ := Option.map_eq_some_iff.mp e
    have hk : R W2 H2 y kd := by
      refine t2.sc s2.rel ev2 ?_
      unfold idxD at e1
      split at e1
      · rfl
      · rfl
      · split at e1
        · rename_i hk
          cases kd <;> first
            | rfl
            | simp [keyOk] at hk
        · cases e1
      · cases e1
    exact .inl ⟨W2, d, kd, r0, t1.read s2.rel (by rw [ev1]; rfl), hk, e1, fun z hz => k _ _ _ _ _ _ q (s1.trans r s2) hz⟩
  · rename_i j x' ev1 ev2
    obtain rfl := RR.str (t2.sc s2.rel ev2 rfl).rr
    cases q1 : st2.sto[j]? with
    | none => rw [q1] at e; cases e
    | some ob =>
      rw [q1] at e
      cases ob with
      | lst _ => cases e
      | rcd fs =>
        have hx : ∃ a, ρ2[j]? = some a ∧ x = .ref a := by
          obtain ⟨tag, val⟩ := o1
          cases ev1
          cases tag with
          | frz => exact t1
          | fre => obtain ⟨_, _, e', _⟩ := t1; cases e'
          | slot i => obtain ⟨_, _, e', _⟩ := s2.rel.ow i _ t1.1; cases e'
        obtain ⟨a, ha, rfl⟩ := hx
        obtain ⟨wa, kvs, h1, h2⟩ := s2.rel.s.at_ j _ a q1 ha
        have find : ∀ {kvs : List (Key × V)} {fs : List (Str × SV)}, Paired (fun (p : Key × V) (q : Str × SV) => p.1 = Sum.inr q.1 ∧ RSV ρ2 q.2 p.2) kvs fs → ∀ sv, fs.lookup x' = some sv → ∃ v, valV kvs (Sum.inr x' : Key) = some v ∧ RSV ρ2 sv v := by
          intro kvs fs hp
          induction hp with
          | nil => intro sv h; simp at h
          | @cons p q ps qs hpq _ ih =>
            intro sv h
            rw [List.lookup_cons] at h
            by_cases hb : x' = q.1
            · have : (x' == q.1) = true := by simp [hb]
              rw [this] at h
              cases h
              exact ⟨p.2, valV_pos (by rw [hpq.1, hb]), hpq.2⟩
            · have : (x' == q.1) = false := by simp [hb]
              rw [this] at h
              obtain ⟨v, h1, h2⟩ := ih sv h
              exact ⟨v, by rw [valV_neg (by rw [hpq.1]; simp; exact fun z => hb z.symm)]; exact h1, h2⟩
        simp only at e
        cases q2 : fs.lookup x' with
        | none => rw [q2] at e; cases e
        | some sv =>
          rw [q2] at e
          obtain ⟨v, hv, rs⟩ := find h2 sv q2
          refine .inr ⟨a, kvs, Sum.inr x', v, rfl, h1, rfl, hv, ?_⟩
          cases sv with
          | int n =>
            cases e
            cases (show v = V.int n from rs)
            exact k _ _ _ _ _ _ q (s1.trans r s2) (.int _)
          | ref m =>
            cases e
            obtain ⟨b, hb, rfl⟩ := rs
            exact k _ _ _ _ _ _ q (s1.trans r s2) ⟨b, hb, rfl⟩
  · cases e
theorem plainIx {e : Expr} (h : sliceB e = false) : PlainIx e := by
  intro o i
  cases e <;> first
    | rfl
    | simp [sliceB] at h
theorem s_idx {o i : IE} {o' i' : Expr} {p : Pos} (c : XOk F N S X sc) (ho : Sound X S o' o) (hi : Sound X S i' i) (hs : sliceB i' = false) : Sound X S (.Subscript o' i' p) (.idx o i) := by
  have hu : X.A.units + 1 < cLine := by have := c.room; omega
  exact Sound.plain rfl ((pe_ix ((ix_D hu).or (ix_rec hu)) ho.pe hi.pe (plainIx hs)).weak fun σ H Q h => getS_te h) rfl

/-! ### slices -/
def TO' (K : PySem.W.Frag) (wp : (Option Int → Stt → Prop) → Stt → Prop) : TO := fun σ H Q => ∃ ρ st W P, Rel K ρ st W σ H ∧ wp P st ∧
  ∀ o st' ρ' W' H', P o st' → Step K ρ st W σ H ρ' st' W' σ H' → Q o H'
def SoundO (X : Cx) (S : SpecK) (e : Option Expr) (io : IO) : Prop := PO X e (TO' X.K (wpO S io))
theorem _root_.L2.PO.weak {X : Cx} {e : Option Expr} {t t' : TO} (h : PO X e t) (w : ∀ σ H Q, t' σ H Q → t σ H Q) : PO X e t' := ⟨fun pins s σ H Q I hw => h.run pins s σ H Q I (w _ _ _ hw)⟩
theorem so_no : SoundO X S none .no := po_none.weak fun σ H Q h => by
  obtain ⟨ρ, st, W, P, r, w, k⟩ := h
  exact k _ _ _ _ _ w r.refl
theorem so_so {e : Expr} {a : IE} (h : Sound X S e a) : SoundO X S (some e) (.so a) := (po_some h.pe).weak fun σ H Q h => by
  obtain ⟨ρ, st, W, P, r, w, k⟩ := h
  refine ⟨ρ, st, W, _, r, w, fun o st1 ρ1 W1 H1 x p1 s1 t1 => ?_⟩
  obtain ⟨i, e, q⟩ := p1
  exact ⟨i, t1.toInt s1.rel e, k _ _ _ _ _ q s1⟩
theorem s_slc {o : IE} {lo hi : IO} {o' : Expr} {lo' hi' : Option Expr} {p p2 : Pos} (ho : Sound X S o' o) (hl : SoundO X S lo' lo) (hh : SoundO X S hi' hi) : Sound X S (.Subscript o' (.Slice lo' hi' none p2) p) (.slc o lo hi) := by
  refine Sound.plain rfl ((pe_slice sl_D ho.pe hl hh).weak fun σ H Q h => ?_) rfl
  obtain ⟨ρ, st, W, P, r, w, k⟩ := h
  refine ⟨ρ, st, W, _, r, w, fun o1 st1 ρ1 W1 H1 x p1 s1 t1 => ⟨ρ1, st1, W1, _, s1.rel, p1, fun l st2 ρ2 W2 H2 p2 s2 => ⟨ρ2, st2, W2, _, s2.rel, p2, fun h' st3 ρ3 W3 H3 p3 s3 => ?_⟩⟩⟩
  obtain ⟨ok, d, res, v1, e, q⟩ := p3
  have s13 := s2.trans s1.rel s3
  have t1 := t1.later s13 s1.rel ok
  refine ⟨W3, d, res, s3.rel.s.wn, t1.read s3.rel v1, e, fun z H' hz => ?_⟩
  obtain ⟨W', s4, t4⟩ := hz.step s3.rel (fun a n => (s1.trans r s13).free n)
  exact k _ _ _ _ _ _ q ((s1.trans r s13).trans r s4) t4
section
variable {prog : Program} {w : World} {A : Around} {E : Value → Shared → Prop} {s : Shared}
theorem slice_rev {sl : Addr} {n : Nat} {vs : Value} {Q : Int × Int × Nat → Shared → Prop} (hs : s.heap.IsSliceOf sl .none .none vs) (pk : IsPart vs (some (-1)))
    (h : Q (((n : Int) - 1), -1, n) s) : wpAny (model prog w) A (Builtin.Slice.sliceApplied (.ref sl) (pure (n : Int))) Q E s := by
  obtain ⟨os, hos, hcs, hds⟩ := id hs
  unfold Builtin.Slice.sliceApplied Builtin.Slice.sliceFields
  refine wpAny_bind (wpAny_bind (wpAny_field hos hds (x := .none) rfl (wpAny_bind (wpAny_field hos hds (x := .none) rfl (wpAny_bind (wpAny_field hos hds (x := vs) rfl (wpAny_pure ?_)))))))
  refine wpAny_bind (HT.slicePart_ pk ?_)
  show wpAny _ _ (if ((-1 : Int) == 0) = true then _ else _) _ _ s
  rw [if_neg (by decide)]
  refine wpAny_bind (HT.slicePart_ .none (wpAny_bind (HT.slicePart_ .none (wpAny_bind (wpAny_pure ?_)))))
  have e1 : Builtin.Slice.sliceAdjust none none (-1) (n : Int) = ((n : Int) - 1, -1) := by
    simp [Builtin.Slice.sliceAdjust]
  show wpAny _ _ (match Builtin.Slice.sliceAdjust none none (-1) (n : Int) with | (lo, hi) => pure (lo, (-1 : Int), Builtin.Slice.slicePlaces lo hi (-1))) _ _ s
  rw [e1]
  have e2 : Builtin.Slice.slicePlaces ((n : Int) - 1) (-1) (-1) = n := by
    unfold Builtin.Slice.slicePlaces
    rw [if_neg (by decide)]
    by_cases h0 : n = 0
    · subst h0; decide
    · rw [if_pos (by omega)]
      have : ((n : Int) - 1 - -1 - 1) / -(-1) = (n : Int) - 1 := by
        rw [show (-(-1) : Int) = 1 by decide, Int.ediv_one]; omega
      rw [this]
      omega
  show wpAny _ _ (pure (((n : Int) - 1), (-1 : Int), Builtin.Slice.slicePlaces ((n : Int) - 1) (-1) (-1))) _ _ s
  rw [e2]
  exact wpAny_pure h
theorem pick_rev (xs : Array Value) : ((List.range xs.size).filterMap fun (m : Nat) => xs[(((xs.size : Int) - 1) + (m : Int) * (-1)).toNat]?).toArray = xs.toList.reverse.toArray := by
  have e : (fun (m : Nat) => xs[(((xs.size : Int) - 1) + (m : Int) * (-1)).toNat]?) = fun m => xs[xs.size - 1 - m]? := by
    funext m
    have : (((xs.size : Int) - 1) + (m : Int) * (-1)).toNat = xs.size - 1 - m := by omega
    rw [this]
  rw [e]
  have h1 : (List.range xs.size).filterMap (fun m => xs[xs.size - 1 - m]?) = (((List.range xs.size).map fun k => xs.size - 1 - k).filterMap (xs[·]?)) := by
    rw [List.filterMap_map]; rfl
  rw [h1, PySem.W.krv_range, List.filterMap_reverse, PySem.W.krv_all]
theorem getItem_tuple_rev {t sl : Addr} {items : Array Value} {vs : Value} {Q : Value → Shared → Prop} (ht : IsTup s.heap t items) (hs : s.heap.IsSliceOf sl .none .none vs) (pk : IsPart vs (some (-1)))
    (h : Q (.ref s.heap.objs.size) { s with heap := s.heap.push { cls := .type "tuple", data := .seq items.toList.reverse.toArray } }) (hsz : items.size ≤ sizeLine) : wpAny (model prog w) A (getItem (.ref t) (.ref sl)) Q E s := by
  have htake : sizeOk (.seq items.toList.reverse.toArray) := by
    show items.toList.reverse.toArray.size ≤ sizeLine
    rw [List.size_toArray, List.length_reverse, Array.length_toList]
    exact hsz
  obtain ⟨os, hos, hcs, hds⟩ := id hs
  have hTs : s.TypeIs (.ref sl) "slice" := ⟨os, hos, hcs⟩
  unfold getItem
  try with_reducible refine wpAny_holding ?_
  first | refine wpAny_bind (wpAny_pure ?_) | skip
  refine wpAny_bind (wpAny_sequenceKey ht.typeIs (by decide) ?_)
  refine wpAny_bind (wpAny_callSpecial?_slot (name := Str.ofString "__getitem__") ht.typeIs PyProof.Rows.slot_tuple_getitem
    (wpAny_call_entry PyProof.Rows.slot_tuple_getitem ht.typeIs PyProof.Rows.entry_tuple_getitem ?_ (PyProof.Rows.args_tuple_getitem _ _)))
  show wpAny _ _ (Builtin.Tuple.tupleItemsOf (.ref t) >>= _) _ _ s
  refine wpAny_bind (PyProof.Rows.tupleItemsOf_ ht ?_)
  refine wpAny_bind (wpAny_typeOf hTs ?_)
  rw [if_pos (by decide)]
  refine wpAny_bind (slice_rev hs pk ?_)
  have hno : ¬ ((((items.size : Int) - 1) == 0 && (-1 : Int) == 1 && items.size == items.size) = true) := by
    intro q
    rw [Bool.and_eq_true, Bool.and_eq_true] at q
    exact absurd q.1.2 (by decide)
  show wpAny _ _ (if (((items.size : Int) - 1) == 0 && (-1 : Int) == 1 && items.size == items.size) = true then _ else _) _ _ s
  rw [if_neg hno, pick_rev]
  first
    | exact wpAny_bind (m := Builtin.Tuple.tupleExact _) (wpAny_newObj_type (wpAny_pure ⟨_, rfl, wpAny_pure h⟩) htake)
    | exact wpAny_bind (m := Builtin.Tuple.tupleExact _) (wpAny_newObj_type (wpAny_bind (wpAny_pure (wpAny_pure ⟨_, rfl, wpAny_pure h⟩))) htake)
    | exact wpAny_bind (wpAny_bind (m := Builtin.Tuple.tupleExact _) (wpAny_newObj_type (wpAny_pure (wpAny_pure ⟨_, rfl, wpAny_pure h⟩)) htake))
    | exact wpAny_bind (wpAny_bind (m := Builtin.Tuple.tupleExact _) (wpAny_newObj_type (wpAny_pure ⟨_, rfl, wpAny_pure h⟩) htake))
end
def tRevA (K : PySem.W.Frag) (te : TE) : TE := fun σ H Q => te σ H fun x H1 => ∃ a xs, x = .ref a ∧ ((SqL K H1 a xs ∧ ∀ p, H1 p = none → Q (.ref p) (upd H1 p (.lst xs.reverse))) ∨ (SqT K H1 a xs ∧ ∀ p, H1 p = none → Q (.ref p) (upd H1 p (.tup xs.reverse))))
theorem pe_revA {X : Cx} {e : Expr} {te : TE} {k : Nat} {p1 p2 p3 pos : Pos} (he : PE X e te) : PE X (.Subscript e (.Slice none none (some (.UnaryOp .USub (.Constant (.int 1) k p1) p2)) p3) pos) (tRevA X.K te) := by
  refine ⟨fun pins s σ H Q I h => ?_⟩
  refine Subscript_ (thn (he.run pins s σ H _ I h) fun v s1 ⟨x, H1, I1, r1, q1⟩ => ?_)
  obtain ⟨a, xs, ex, q⟩ := q1
  subst ex
  cases r1
  have hst : PO X (some (.UnaryOp .USub (.Constant (.int 1) k p1) p2)) (tPart (tUn (rU fun i => .int (-i)) (tC (.int 1)))) := po_some (pe_un un_neg pe_int)
  refine wpAny_Slice (thn (po_none.run pins s1 σ H1 (fun o H2 => o = none ∧ H2 = H1) I1 ⟨rfl, rfl⟩) fun vl s2 ⟨l, H2, I2, pl, el, e2⟩ => ?_)
  subst el e2
  refine thn (po_none.run pins s2 σ H2 (fun o H3 => o = none ∧ H3 = H2) I2 ⟨rfl, rfl⟩) fun vu s3 ⟨u, H3, I3, pu, eu, e3⟩ => ?_
  subst eu e3
  refine thn (hst.run pins s3 σ H3 (fun o H4 => o = some (-1) ∧ H4 = H3) I3 ⟨1, rfl, -1, rfl, rfl, rfl⟩) fun vs s4 ⟨o, H4, I4, ps, eo, e4⟩ => ?_
  subst eo e4
  have I5 : Inv X pins σ H4 { s4 with heap := s4.heap.push { cls := .type "slice", data := .fields #[vl, vu, vs] } } := I4.kept (t' := s4.toks) fun b ob q => Heap.get?_push_of_some _ q
  show wpAny (model X.prog X.w) X.A (subscriptTail e (.Slice none none (some (.UnaryOp .USub (.Constant (.int 1) k p1) p2)) p3) (.ref a) (.ref s4.heap.objs.size)) (EP X pins σ Q) X.xe { s4 with heap := s4.heap.push { cls := .type "slice", data := .fields #[vl, vu, vs] } }
  rcases q with ⟨hx, q⟩ | ⟨hx, q⟩
  · obtain ⟨its, r, ht, hz⟩ := I5.list hx
    have hlen := r.length
    refine tail_any (ops := [.ref a, .ref s4.heap.objs.size]) ht.isList.typeIs (PySem.slot_list_getitem.lookup) ?_ (by with_unfolding_all rfl)
    refine wpAny_getItem_list_slice ht.isList (Heap.IsSliceOf.new _ vl vu vs) pl pu ps (by decide) ?_ (by rw [List.size_toArray]; omega)
    rw [PySem.W.krv_pick]
    refine ⟨.ref _, _, I5.laid (t' := s4.toks) (o := .lst xs.reverse) (fun b ob q => Heap.get?_push_of_some _ q) (Nat.le_refl _) ?_, rfl, q _ (I5.hok.fresh (Nat.le_refl _))⟩
    exact ⟨by rw [List.length_reverse]; exact hz, _, 0, r.reverse, Heap.get?_push_size _ rfl⟩
  · obtain ⟨its, r, ht, hz⟩ := I5.tuple hx
    have hlen := r.length
    cases pl; cases pu
    refine tail_any (ops := [.ref a, .ref s4.heap.objs.size]) ht.typeIs PyProof.Rows.slot_tuple_getitem.lookup ?_ (by with_unfolding_all rfl)
    refine getItem_tuple_rev ht (Heap.IsSliceOf.new ..) ps ?_ (by rw [List.size_toArray]; omega)
    refine ⟨.ref _, _, I5.laid (t' := s4.toks) (o := .tup xs.reverse) (fun b ob q => Heap.get?_push_of_some _ q) (Nat.le_refl _) ?_, rfl, q _ (I5.hok.fresh (Nat.le_refl _))⟩
    exact ⟨by rw [List.length_reverse]; exact hz, _, r.reverse, IsTup.new _ _⟩
theorem s_rev {o : IE} {o' : Expr} {j : Int} {k0 : Nat} {p p1 p2 p3 : Pos} (hj : j = 1) (ho : Sound X S o' o) : Sound X S (.Subscript o' (.Slice none none (some (.UnaryOp .USub (.Constant (.int j) k0 p1) p2)) p3) p) (.rev o) := by
  subst hj
  refine Sound.plain rfl ((pe_revA ho.pe).weak fun σ H Q h => ?_) rfl
  obtain ⟨ρ, st, W, P, r, w, k⟩ := h
  refine ⟨ρ, st, W, _, r, w, fun o1 st1 ρ1 W1 H1 x p1 s1 t1 => ?_⟩
  obtain ⟨d, res, v1, e, q⟩ := p1
  have rr := t1.read s1.rel v1
  unfold revD at e
  split at e
  · cases e
    obtain ⟨a, xs, rfl, e1, ra⟩ := rr
    refine ⟨a, xs, rfl, .inl ⟨SqL.of e1, fun p hp => ?_⟩⟩
    obtain ⟨W', s4, t4⟩ := (ra.rev.newL hp).step s1.rel (fun a n => s1.free n)
    exact k _ _ _ _ _ _ q (s1.trans r s4) t4
  · cases e
    obtain ⟨a, xs, rfl, w1, e1, ra⟩ := rr.tup
    refine ⟨a, xs, rfl, .inr ⟨SqT.of e1, fun p hp => ?_⟩⟩
    obtain ⟨W', s4, t4⟩ := (ra.rev.newT hp s1.rel.s.wn).step s1.rel (fun a n => s1.free n)
    exact k _ _ _ _ _ _ q (s1.trans r s4) t4
  · cases e
theorem rgV_ra {W : Addr → Prop} {H : Hp} : ∀ (n : Nat) (lo : Int), RA W H ((List.range n).map fun i => V.int (lo + (i : Nat))) (rngD lo n)
  | 0, lo => .nil
  | n + 1, lo => by
    rw [List.range_succ_eq_map, List.map_cons, List.map_map]
    unfold rngD
    refine .cons (by simpa using R.int lo) ?_
    have e : (List.map ((fun i : Nat => V.int (lo + (i : Nat))) ∘ Nat.succ) (List.range n)) = (List.range n).map fun i => V.int ((lo + 1) + (i : Nat)) := by
      apply List.map_congr_left
      intro i _
      simp only [Function.comp]
      congr 1
      omega
    rw [e]
    exact rgV_ra n (lo + 1)
theorem s_lrg {t : Bool} {a : IE} {x y : Str} {v : Expr} {p p' q q' : Pos} (c : XOk F N S X sc) (hx : x = if t then "tuple" else "list") (hg : glB sc x = true) (hy : y = "range") (hgy : glB sc y = true) (ha : Sound X S v a) (hs : starB v = false) :
    Sound X S (.Call (.Name x p) [.Call (.Name y q) [v] [] q'] [] p') (.lrg t (.rg1 a)) := by
  subst hy
  have hr := prg_1 (p := q) (pos := q') (c.glOk hgy) (c.blt _ (by decide)) ha.pe (notStar hs _ _)
  cases t with
  | true =>
    have hx : x = "tuple" := hx
    subst hx
    refine Sound.plain rfl ((pe_tupRg c.calm (c.glOk hg) (c.blt _ (by decide)) hr (by rfl)).weak fun σ H Q h => ?_) rfl
    obtain ⟨ρ, st, W, P, r, w, k⟩ := h
    refine ⟨ρ, st, W, _, r, w, fun o st1 ρ1 W1 H1 x p1 s1 t1 => ?_⟩
    obtain ⟨i, e, hi, q⟩ := p1
    refine ⟨i, t1.toInt s1.rel e, ?_, fun z hz => ?_⟩
    · have := hi.1; have := hi.2
      exact ⟨by omega, by omega, by omega, by omega, by omega⟩
    · have ra := rgV_ra (W := W1) (H := H1) (i - 0).toNat 0
      obtain ⟨W', s4, t4⟩ := (ra.newT hz s1.rel.s.wn).step s1.rel (fun a n => s1.free n)
      rw [Int.sub_zero] at s4 t4
      unfold rgV
      rw [Int.sub_zero]
      exact k _ _ _ _ _ _ q (s1.trans r s4) t4
  | false =>
    have hx : x = "list" := hx
    subst hx
    refine Sound.plain rfl ((pe_listRg c.calm (c.glOk hg) (c.blt _ (by decide)) hr (by rfl)).weak fun σ H Q h => ?_) rfl
    obtain ⟨ρ, st, W, P, r, w, k⟩ := h
    refine ⟨ρ, st, W, _, r, w, fun o st1 ρ1 W1 H1 x p1 s1 t1 => ?_⟩
    obtain ⟨i, e, hi, q⟩ := p1
    refine ⟨i, t1.toInt s1.rel e, ?_, fun z hz => ?_⟩
    · have := hi.1; have := hi.2
      exact ⟨by omega, by omega, by omega, by omega, by omega⟩
    · have ra := rgV_ra (W := W1) (H := H1) (i - 0).toNat 0
      obtain ⟨W', s4, t4⟩ := (ra.newL hz).step s1.rel (fun a n => s1.free n)
      rw [Int.sub_zero] at s4 t4
      unfold rgV
      rw [Int.sub_zero]
      exact k _ _ _ _ _ _ q (s1.trans r s4) t4
theorem s_lrg2 {t : Bool} {a b : IE} {x y : Str} {v u : Expr} {p p' q q' : Pos} (c : XOk F N S X sc) (hx : x = if t then "tuple" else "list") (hg : glB sc x = true) (hy : y = "range") (hgy : glB sc y = true) (ha : Sound X S v a) (hs : starB v = false) (hb : Sound X S u b) (hs2 : starB u = false) :
    Sound X S (.Call (.Name x p) [.Call (.Name y q) [v, u] [] q'] [] p') (.lrg t (.rg2 a b)) := by
  subst hy
  have hr := prg_2 (p := q) (pos := q') (c.glOk hgy) (c.blt _ (by decide)) ha.pe hb.pe (notStar hs _ _) (notStar hs2 _ _) (by rw [notStar hs2 _ _]; rfl)
  cases t with
  | true =>
    have hx : x = "tuple" := hx
    subst hx
    refine Sound.plain rfl ((pe_tupRg c.calm (c.glOk hg) (c.blt _ (by decide)) hr (by rfl)).weak fun σ H Q h => ?_) rfl
    obtain ⟨ρ, st, W, P, r, w, k⟩ := h
    refine ⟨ρ, st, W, _, r, w, fun o st1 ρ1 W1 H1 x p1 s1 t1 => ⟨ρ1, st1, W1, _, s1.rel, p1, fun o2 st2 ρ2 W2 H2 y p2 s2 t2 => ?_⟩⟩
    obtain ⟨i, j, e1, e2, hi, hj, q⟩ := p2
    obtain rfl := t1.toInt s1.rel e1
    obtain rfl := t2.toInt s2.rel e2
    refine ⟨i, j, rfl, rfl, ?_, fun z hz => ?_⟩
    · have := hi.1; have := hi.2; have := hj.1; have := hj.2
      exact ⟨by omega, by omega, by omega, by omega, by omega⟩
    · have ra := rgV_ra (W := W2) (H := H2) (j - i).toNat i
      obtain ⟨W', s4, t4⟩ := (ra.newT hz s2.rel.s.wn).step s2.rel (fun a n => (s1.trans r s2).free n)
      unfold rgV
      exact k _ _ _ _ _ _ q ((s1.trans r s2).trans r s4) t4
  | false =>
    have hx : x = "list" := hx
    subst hx
    refine Sound.plain rfl ((pe_listRg c.calm (c.glOk hg) (c.blt _ (by decide)) hr (by rfl)).weak fun σ H Q h => ?_) rfl
    obtain ⟨ρ, st, W, P, r, w, k⟩ := h
    refine ⟨ρ, st, W, _, r, w, fun o st1 ρ1 W1 H1 x p1 s1 t1 => ⟨ρ1, st1, W1, _, s1.rel, p1, fun o2 st2 ρ2 W2 H2 y p2 s2 t2 => ?_⟩⟩
    obtain ⟨i, j, e1, e2, hi, hj, q⟩ := p2
    obtain rfl := t1.toInt s1.rel e1
    obtain rfl := t2.toInt s2.rel e2
    refine ⟨i, j, rfl, rfl, ?_, fun z hz => ?_⟩
    · have := hi.1; have := hi.2; have := hj.1; have := hj.2
      exact ⟨by omega, by omega, by omega, by omega, by omega⟩
    · have ra := rgV_ra (W := W2) (H := H2) (j - i).toNat i
      obtain ⟨W', s4, t4⟩ := (ra.newL hz).step s2.rel (fun a n => (s1.trans r s2).free n)
      unfold rgV
      exact k _ _ _ _ _ _ q ((s1.trans r s2).trans r s4) t4
end
end Ev
end

section
set_option Elab.async false
set_option linter.all false
set_option maxRecDepth 100000
/-! Ev14: append, pop; records. -/
namespace Ev
open PySem PySem.Spec PyProof.Rows L2
def rExtT (K : PySem.W.Frag) : V → List V → Hp → VK → Prop := fun x vs H Q => ∃ l b xs zs, x = .ref l ∧ vs = [.ref b] ∧ H l = some (.lst xs) ∧ SqT K H b zs ∧ xs.length + zs.length ≤ sizeLine ∧ Q .non (upd H l (.lst (xs ++ zs)))
theorem mt_extendT {X : Cx} : MtM X "list.extend" (rExtT X.K) := by
  intro pins s σ H x vs v us Q I rx rv h
  obtain ⟨l, b, xs, zs, rfl, rfl, hH, hB, hz, q⟩ := h
  cases rx
  obtain ⟨u, rfl, ru⟩ := rv.one
  cases ru
  obtain ⟨z, its, n, r, hl, e⟩ := I.lstM hH
  obtain ⟨its2, r2, ⟨o, g1, g2, n2, g4⟩, hs2⟩ := I.tuple hB
  have hl2 := r2.length
  have hsz : its.toArray.size + its2.toArray.size ≤ sizeLine := by rw [List.size_toArray, List.size_toArray]; omega
  have hlong : ¬ (!its.toArray.isEmpty && Builtin.List.listTooLong (its.toArray.size + its2.toArray.size)) = true := by
    rw [notLongL hsz, Bool.and_false]
    exact Bool.false_ne_true
  refine PyProof.Rows.wpAny_call_entry_kw F.slot_list_extend ⟨_, e, rfl⟩ F.entry_list_extend ?_ (F.args_list_extend_2 _ _)
  unfold Builtin.«list.extend»
  refine wpAny_bind (wpAny_pure ?_)
  show wpAny _ _ (Builtin.List.listExtendWith (.ref l) (.ref b) .none) _ _ _
  unfold Builtin.List.listExtendWith
  refine wpAny_bind (wpAny_typeOf (T := "tuple") ⟨o, g1, g2⟩ ?_)
  rw [if_pos (by rw [show (Value.type "tuple" == Value.type "tuple") = true by rfl]; simp)]
  refine wpAny_bind (listItems_at g1 g4 (wpAny_bind (listItems_at e rfl ?_)))
  rw [if_neg hlong]
  refine wpAny_bind (listUpdate_at e rfl (wpAny_pure ⟨_, rfl, ?_⟩) ?_ ?_)
  · refine ⟨.non, _, I.lset (its' := its ++ its2) hH e (by simp) (r.append r2) ?_, rfl, q⟩
    rw [List.length_append]
    omega
  · rw [List.size_toArray]; omega
  · simp; simp at hsz; omega
def rExtU (K : PySem.W.Frag) : V → List V → Hp → VK → Prop := fun x vs H Q => rExtT K x vs H Q ∨ rExtend x vs H Q
theorem mt_extendU {X : Cx} : MtM X "list.extend" (rExtU X.K) := by
  intro pins s σ H x vs v us Q I rx rv h
  rcases h with h | h
  · exact mt_extendT pins s σ H x vs v us Q I rx rv h
  · exact mt_extend pins s σ H x vs v us Q I rx rv h
def rUpd (X : Cx) : V → List V → Hp → VK → Prop := fun x vs H Q => ∃ (a b : Addr) (kvs more : List (Key × V)) (H1 : Hp), (∀ pins σ s, Inv X pins σ H s → Inv X pins σ H1 s) ∧ x = .ref a ∧ vs = [.ref b] ∧ a ≠ b ∧ H1 a = some (.dK kvs) ∧ H1 b = some (.dK more) ∧ kvs.length + more.length ≤ sizeLine ∧ Q .non (upd H1 a (.dK (mergeK kvs more)))
theorem mt_upd {X : Cx} : MtM X "dict.update" (rUpd X) := by
  intro pins s σ H x vs v us Q I rx rv h
  obtain ⟨a, b, kvs, more, H1, hI, rfl, rfl, hne, ha, hb, hz, q⟩ := h
  have I1 := hI _ _ _ I
  cases rx
  obtain ⟨u, rfl, ru⟩ := rv.one
  cases ru
  obtain ⟨z1, hd, vs1, rel, dd⟩ := dk_of I1.hok ha
  obtain ⟨z2, hd2, ws, rel2, dd2⟩ := dk_of I1.hok hb
  have l1 := rel.length
  have l2 := rel2.length
  refine call_meetsIn PySem.F.slot_dict_update dd.typeIs PySem.F.entry_dict_update (PySem.F.args_dict_update_2 _ _) (meets_dict_update (mixKind X.prog X.w) a b hne hd2) ⟨vs1, ws, dd, dd2, by omega, fun h' hmm _ hs => ?_⟩
  have he : ∃ q, h'.get? a = some q := let ⟨q, _, _, hq, _⟩ := hmm; ⟨q, hq⟩
  have hl : (mergeK kvs more).length ≤ sizeLine := by
    have := length_mergeK more kvs
    omega
  exact ⟨.non, _, d_write I1 (by rw [ha]; exact True.intro) hs he (dk_new hl hd (KV.merge rel2 rel) hmm), rfl, q⟩
theorem findD_at {x : D} : ∀ {ds : List D} {i j : Nat}, findD x ds i = some j → ∃ k, j = i + k ∧ (∃ z, ds[k]? = some z ∧ PyData.eqv z x = true) ∧ ∀ m z, m < k → ds[m]? = some z → PyData.eqv z x = false
  | [], i, j, h => by cases h
  | z :: r, i, j, h => by
    unfold findD at h
    split at h
    · rename_i e
      cases h
      exact ⟨0, rfl, ⟨z, rfl, e⟩, fun m z' hm => by omega⟩
    · rename_i e
      obtain ⟨k, h1, ⟨w, h2, h3⟩, h4⟩ := findD_at h
      refine ⟨k + 1, by omega, ⟨w, by simpa using h2, h3⟩, fun m z' hm hz => ?_⟩
      cases m with
      | zero =>
        simp at hz
        subst hz
        simpa using e
      | succ m => exact h4 m z' (by omega) (by simpa using hz)
def rFnd : V → List V → Hp → VK → Prop := fun x xs H Q => ∃ (W : Addr → Prop) (a : Addr) (y : V) (ys : List V) (ds : List D) (d : D) (j : Nat), x = .ref a ∧ xs = [y] ∧ H a = some (.lst ys) ∧ RA W H ys ds ∧ RR W H y d ∧ SeqAt.shaped (.list ds) = true ∧ SeqAt.shaped d = true ∧ findD d ds 0 = some j ∧ Q (.int (j : Nat)) H
theorem mt_fnd {X : Cx} (hu : X.A.units + 65 < cLine) : MtR X "list.index" rFnd := by
  intro pins s σ H x xs v us Q I rx rxs h
  obtain ⟨W, a, y, ys, ds, d, j, rfl, rfl, hH, ra, rd, sl, sd, hf, q⟩ := h
  obtain ⟨k, hk, ⟨z, hz, hzj⟩, hno⟩ := findD_at hf
  have hkj : k = j := by omega
  subst hkj
  cases rx
  obtain ⟨uy, rfl, ry⟩ := rxs.one
  obtain ⟨bs, r1⟩ := RR.reads I (lay_noDict sd) rd ry
  have hxs : PyData.canLayAll0 ds = true := SeqAt.canLay_of_shaped sl
  have hroom : X.A.units + 1 + min (PyData.depthAll ds) d.depth < cLine := room_in_shaped sd hu
  obtain ⟨its, rv, ⟨⟨cls, dd, data, sls⟩, n, ho, hc, hdn, hdt⟩, hlen⟩ := I.list (SqL.of hH)
  simp only at hc hdt
  subst hc hdt
  obtain ⟨as, h4⟩ := RA.reads I ds ys its (lay_noDict sl) ra rv
  have hn : its.length = ds.length := SeqAt.ReadsAll.length ds its as h4
  have hmap : its.map (SeqAt.readOf s.heap) = ds := SeqAt.readsAll_map ds its as hxs h4
  have hvl := rv.length
  have hsl := sizeLine_eq
  obtain ⟨hjd, _⟩ := List.getElem?_eq_some_iff.mp hz
  have hjl : k < its.length := by omega
  have hj : k < its.toArray.size := by simpa using hjl
  have at_ : ∀ (m : Nat) (hm : m < its.toArray.size) (z' : PyData), ds[m]? = some z' → SeqAt.readOf s.heap its.toArray[m] = z' := by
    intro m hm z' hz'
    have hml : m < its.length := by simpa using hm
    rw [← hmap, List.getElem?_map, List.getElem?_eq_getElem hml] at hz'
    have e1 : SeqAt.readOf s.heap its[m] = z' := Option.some.inj (show some (SeqAt.readOf s.heap its[m]) = some z' from hz')
    simpa using e1
  refine call_meets PySem.F.slot_list_index ⟨_, ho, rfl⟩ PySem.F.entry_list_index (PySem.F.args_list_index_2 _ _)
    (SeqAt.list_indexAt a its.toArray n dd sls uy (fun u => PyData.eqv (SeqAt.readOf s.heap u) d) k hj (by omega) ?_ ?_) ⟨ho, SeqAt.items_eqAt (vs := its.toArray) (show ReadsAll s.heap its.toArray.toList ds as from h4) r1 hxs (SeqAt.canLay_of_shaped sd) hroom, ?_⟩
  · show PyData.eqv (SeqAt.readOf s.heap its.toArray[k]) d = true
    rw [at_ k hj z hz]
    exact hzj
  · intro m hm hmj
    have hmd : m < ds.length := by omega
    have hz' : ds[m]? = some ds[m] := List.getElem?_eq_getElem hmd
    show PyData.eqv (SeqAt.readOf s.heap its.toArray[m]) d = false
    rw [at_ m hm _ hz']
    exact hno m _ hmj hz'
  · exact ⟨.int (k : Nat), H, I.tok _, ⟨_, rfl⟩, q⟩
def rCtd : V → List V → Hp → VK → Prop := fun x xs H Q => ∃ (W : Addr → Prop) (a : Addr) (y : V) (ys : List V) (ds : List D) (d : D), x = .ref a ∧ xs = [y] ∧ H a = some (.lst ys) ∧ RA W H ys ds ∧ RR W H y d ∧ SeqAt.shaped (.list ds) = true ∧ SeqAt.shaped d = true ∧ Q (.int (countD d ds : Nat)) H
theorem mt_ctd {X : Cx} (hu : X.A.units + 65 < cLine) : MtR X "list.count" rCtd := by
  intro pins s σ H x xs v us Q I rx rxs h
  obtain ⟨W, a, y, ys, ds, d, rfl, rfl, hH, ra, rd, sl, sd, q⟩ := h
  cases rx
  obtain ⟨uy, rfl, ry⟩ := rxs.one
  obtain ⟨bs, r1⟩ := RR.reads I (lay_noDict sd) rd ry
  have hxs : PyData.canLayAll0 ds = true := SeqAt.canLay_of_shaped sl
  have hroom : X.A.units + 1 + min (PyData.depthAll ds) d.depth < cLine := room_in_shaped sd hu
  obtain ⟨its, rv, ⟨⟨cls, dd, data, sls⟩, n, ho, hc, hdn, hdt⟩, hlen⟩ := I.list (SqL.of hH)
  simp only at hc hdt
  subst hc hdt
  obtain ⟨as, h4⟩ := RA.reads I ds ys its (lay_noDict sl) ra rv
  have hmap : its.map (SeqAt.readOf s.heap) = ds := SeqAt.readsAll_map ds its as hxs h4
  have hcount : its.toArray.toList.countP (fun u => PyData.eqv (SeqAt.readOf s.heap u) d) = countD d ds := by
    unfold countD
    rw [← hmap, List.countP_map]
    rfl
  refine call_meets PySem.F.slot_list_count ⟨_, ho, rfl⟩ PySem.F.entry_list_count (PySem.F.args_list_count_2 _ _)
    (SeqAt.list_countAt a its.toArray n dd sls uy (fun u => PyData.eqv (SeqAt.readOf s.heap u) d)) ⟨ho, SeqAt.items_eqAt (vs := its.toArray) (show ReadsAll s.heap its.toArray.toList ds as from h4) r1 hxs (SeqAt.canLay_of_shaped sd) hroom, ?_⟩
  rw [hcount]
  exact ⟨.int (countD d ds : Nat), H, I.tok _, ⟨_, rfl⟩, q⟩
def rRmd : V → List V → Hp → VK → Prop := fun x xs H Q => ∃ (W : Addr → Prop) (a : Addr) (y : V) (ys : List V) (ds : List D) (d : D) (j : Nat), x = .ref a ∧ xs = [y] ∧ H a = some (.lst ys) ∧ RA W H ys ds ∧ R W H y d ∧ SeqAt.shaped (.list ds) = true ∧ SeqAt.shaped d = true ∧ findD d ds 0 = some j ∧ Q .non (upd H a (.lst (ys.eraseIdx j)))
theorem mt_rmd {X : Cx} (hu : X.A.units + 65 < cLine) : MtM X "list.remove" rRmd := by
  intro pins s σ H x xs v us Q I rx rxs h
  obtain ⟨W, a, y, ys, ds, d, j, rfl, rfl, hH, ra, rd, sl, sd, hf, q⟩ := h
  obtain ⟨k, hk, ⟨z, hz, hzj⟩, hno⟩ := findD_at hf
  have hkj : k = j := by omega
  subst hkj
  cases rx
  obtain ⟨uy, rfl, ry⟩ := rxs.one
  obtain ⟨bs, r1⟩ := R.reads I d y uy (lay_noDict sd) rd ry
  have hxs : PyData.canLayAll0 ds = true := SeqAt.canLay_of_shaped sl
  have hroom : X.A.units + 1 + min (PyData.depthAll ds) d.depth < cLine := room_in_shaped sd hu
  obtain ⟨zz, its, n, rv, hl, e⟩ := I.lstM hH
  obtain ⟨as, h4⟩ := RA.reads I ds ys its (lay_noDict sl) ra rv
  have hn : its.length = ds.length := SeqAt.ReadsAll.length ds its as h4
  have hmap : its.map (SeqAt.readOf s.heap) = ds := SeqAt.readsAll_map ds its as hxs h4
  obtain ⟨hjd, _⟩ := List.getElem?_eq_some_iff.mp hz
  have hjl : k < its.length := by omega
  have hj : k < its.toArray.size := by simpa using hjl
  have at_ : ∀ (m : Nat) (hm : m < its.toArray.size) (z' : PyData), ds[m]? = some z' → SeqAt.readOf s.heap its.toArray[m] = z' := by
    intro m hm z' hz'
    have hml : m < its.length := by simpa using hm
    rw [← hmap, List.getElem?_map, List.getElem?_eq_getElem hml] at hz'
    have e1 : SeqAt.readOf s.heap its[m] = z' := Option.some.inj (show some (SeqAt.readOf s.heap its[m]) = some z' from hz')
    simpa using e1
  refine call_meets PySem.F.slot_list_remove ⟨_, e, rfl⟩ PySem.F.entry_list_remove (PySem.F.args_list_remove_2 _ _)
    (SeqAt.list_removeAt a its.toArray n none #[] uy (fun u => PyData.eqv (SeqAt.readOf s.heap u) d) k hj ?_ ?_ (by rw [List.size_toArray]; omega)) ⟨e, SeqAt.items_eqAt (vs := its.toArray) (show ReadsAll s.heap its.toArray.toList ds as from h4) r1 hxs (SeqAt.canLay_of_shaped sd) hroom, ?_⟩
  · show PyData.eqv (SeqAt.readOf s.heap its.toArray[k]) d = true
    rw [at_ k hj z hz]
    exact hzj
  · intro m hm hmj
    have hmd : m < ds.length := by omega
    have hz' : ds[m]? = some ds[m] := List.getElem?_eq_getElem hmd
    show PyData.eqv (SeqAt.readOf s.heap its.toArray[m]) d = false
    rw [at_ m hm _ hz']
    exact hno m _ hmj hz'
  · refine ⟨.non, _, I.lset (its' := its.eraseIdx k) (t' := s.toks) hH e ?_ (rv.eraseIdx k) ?_, rfl, q⟩
    · show its.toArray.eraseIdxIfInBounds k = (its.eraseIdx k).toArray
      rw [List.eraseIdxIfInBounds_toArray]
    · have := List.length_eraseIdx_le (l := ys) (i := k)
      omega
section
variable {K : PySem.W.Frag} {ρ ρ' : List Addr} {st st' : Stt} {W W' : Addr → Prop} {σ : L2.St} {H H' H0 : Hp}
/-- where a list that may be changed lies -/
def Tgt (ρ : List Addr) (σ : L2.St) (o : Out) (x : V) : Prop := match o.tag, o.val with
  | .slot i, .dat (.list _) => σ[i]? = some (some x)
  | .frz, .ref j => ∃ a, ρ[j]? = some a ∧ x = .ref a
  | _, _ => True
theorem RT.tgt {o : Out} {x : V} (h : RT K ρ st.env W σ H H0 o x) : Tgt ρ σ o x := by
  unfold Tgt
  split
  · rename_i i l e1 e2
    unfold RT at h
    rw [e1] at h
    exact h.2
  · rename_i j e1 e2
    unfold RT at h
    rw [e1, e2] at h
    exact h
  · trivial
theorem Tgt.later {o : Out} {x : V} (h : Tgt ρ σ o x) (p : ρ <+: ρ') : Tgt ρ' σ o x := by
  unfold Tgt at h ⊢
  split
  · rename_i e1 e2
    simp only [e1, e2] at h
    exact h
  · rename_i e1 e2
    simp only [e1, e2] at h
    obtain ⟨a, h1, h2⟩ := h
    obtain ⟨t, rfl⟩ := p
    exact ⟨a, by rw [List.getElem?_append_left (List.getElem?_eq_some_iff.mp h1).1]; exact h1, h2⟩
  · trivial
theorem lst_at {o : Out} {x : V} {ds : List D} (r : Rel K ρ st W σ H) (t : Tgt ρ σ o x) (e : lstOf o st = some ds) :
    ∃ a xs, x = .ref a ∧ H a = some (.lst xs) ∧ RA W H xs ds ∧ ∀ (xs' : List V) (ds' : List D) (st' : Stt), RA W H xs' ds' → setLst o ds' st = some st' → Step K ρ st W σ H ρ st' W σ (upd H a (.lst xs')) := by
  unfold lstOf at e
  unfold Tgt at t
  split at e
  · rename_i i l e1 e2
    simp only [e1, e2] at t
    split at e
    · rename_i l2 e3
      cases e
      obtain ⟨a, d, hv, h1, wa, ro, nr⟩ := r.ow i _ e3
      cases hv
      rw [t] at h1; cases h1
      obtain ⟨xs, h2, ra⟩ := ro
      refine ⟨a, xs, rfl, h2, ra, fun xs' ds' st' ra' hs => ?_⟩
      unfold setLst at hs
      simp only [e1, e2] at hs
      cases hs
      exact r.put e3 t ⟨xs', upd_same, ra'.pres fun b q w eb => ⟨w, by rw [upd_ne (fun z => w (by rw [z]; exact wa))]; exact eb⟩⟩
    · cases e
  · rename_i j e1 e2
    simp only [e1, e2] at t
    obtain ⟨a, ha, rfl⟩ := t
    split at e
    · rename_i ns e3
      cases e
      obtain ⟨wa, hl⟩ := r.s.at_ j _ a e3 ha
      refine ⟨a, ns.map V.int, rfl, hl, RA.ints ns, fun xs' ds' st' ra' hs => ?_⟩
      unfold setLst at hs
      simp only [e1, e2] at hs
      obtain ⟨ms, h1, rfl⟩ := Option.map_eq_some_iff.mp hs
      rw [ints_map h1] at ra'
      rw [ra'.ints_of]
      exact r.puts e3 ha upd_same
    · cases e
  · cases e
theorem tyL {o : Out} {x : V} {ds : List D} (r : Rel K ρ st W σ H) (t : Tgt ρ σ o x) (e : lstOf o st = some ds) : tyV K "list" x H := by
  obtain ⟨a, xs, rfl, h, _⟩ := lst_at r t e
  exact .inl ⟨rfl, xs, SqL.of h⟩
end
section
variable {F : List String} {N : List Str} {S : SpecK} {X : Cx} {sc : Scope}
theorem base_ok {e : Expr} {m : Str} {env : Env} (h : baseB e = true) : attributeBase e m env (eval e env) = eval e env := by
  cases e with
  | Call f as ks p =>
    cases f with
    | Name x q =>
      cases as with
      | nil => cases ks with
        | nil => simp [baseB] at h
        | cons _ _ => rfl
      | cons _ _ => rfl
    | _ => rfl
  | _ => rfl
theorem few_one {v : Expr} {cpos : Pos} {env : Env} (h : starB v = false) : ((backTo cpos (starEach [v] env)).all (fun x => !x.1) && (backToKw cpos (keywordEach [] env)).all (fun x => x.1.isSome)
      && decide ([v].length + ([] : List Keyword).length + (if ([] : List Keyword).isEmpty then 0 else 1) < 30)) = true := by
  rw [notStar h]
  rfl
theorem frz_one (o : Out) (st : Stt) : frzA [o] st = frz o st := rfl
theorem s_app {o e : IE} {o' v : Expr} {m : Str} {apos cpos : Pos} (hm : m = "append") (hl : (apos.endLine == cpos.line) = true) (hb : baseB o' = true) (ho : Sound X S o' o) (he : Sound X S v e) (hs : starB v = false) :
    Sound X S (.Call (.Attribute o' m apos) [v] [] cpos) (.app o e) := by
  subst hm
  refine Sound.plain rfl ((pe_bm PySem.F.plainAttrs_list PySem.F.slot_list_append PySem.F.type_list_append mt_append ho.pe (pa_cons he.pe pa_nil (notStar hs _ _)) (base_ok hb) (few_one hs) hl (notStar hs _ _) rfl).weak fun σ H Q h => ?_) rfl
  obtain ⟨ρ, st, W, P, r, w, k⟩ := h
  refine ⟨ρ, st, W, _, r, w, fun oo st1 ρ1 W1 H1 x p1 s1 t1 => ?_⟩
  obtain ⟨h1, p1⟩ := p1
  obtain ⟨ds1, h1⟩ := Option.isSome_iff_exists.mp h1
  refine ⟨tyL s1.rel t1.tgt h1, ρ1, st1, W1, _, s1.rel, p1, fun ov st2 ρ2 W2 H2 y p2 s2 t2 => ?_⟩
  obtain ⟨st3, e3, q⟩ := p2
  obtain ⟨W3, s3, pr3, hW3, fz⟩ := freeze (os := [ov]) (xs := [y]) s1.rel s2 (.cons t2 .nil fun _ j o' x' h1 => by simp at h1)
  rw [frz_one] at s3
  unfold appS at e3
  split at e3
  · rename_i ds d e4 e5
    split at e3
    · rename_i hlen
      obtain ⟨a, xs, rfl, ha, ra, put⟩ := lst_at s3.rel (t1.tgt.later s2.pre) e4
      obtain ⟨y', hy, rv⟩ := fz 0 ov rfl
      simp at hy
      subst hy
      rw [e5] at rv
      refine ⟨a, xs, y, rfl, rfl, ha, by rw [ra.length, sl_eq]; exact hlen, ?_⟩
      have s4 := put (xs ++ [y]) (ds ++ [d]) st3 (ra.app (.cons rv .nil)) e3
      exact k _ _ _ _ _ _ q ((s1.trans r s3).trans r s4) R.non
    · cases e3
  · cases e3
theorem s_ext {o e : IE} {o' v : Expr} {m : Str} {apos cpos : Pos} (hm : m = "extend") (hl : (apos.endLine == cpos.line) = true) (hb : baseB o' = true) (ho : Sound X S o' o) (he : Sound X S v e) (hs : starB v = false) :
    Sound X S (.Call (.Attribute o' m apos) [v] [] cpos) (.ext o e) := by
  subst hm
  refine Sound.plain rfl ((pe_bm PySem.F.plainAttrs_list PySem.F.slot_list_extend PySem.F.type_list_extend mt_extendU ho.pe (pa_cons he.pe pa_nil (notStar hs _ _)) (base_ok hb) (few_one hs) hl (notStar hs _ _) rfl).weak fun σ H Q h => ?_) rfl
  obtain ⟨ρ, st, W, P, r, w, k⟩ := h
  refine ⟨ρ, st, W, _, r, w, fun oo st1 ρ1 W1 H1 x p1 s1 t1 => ?_⟩
  obtain ⟨h1, p1⟩ := p1
  obtain ⟨ds1, h1⟩ := Option.isSome_iff_exists.mp h1
  refine ⟨tyL s1.rel t1.tgt h1, ρ1, st1, W1, _, s1.rel, p1, fun ov st2 ρ2 W2 H2 y p2 s2 t2 => ?_⟩
  obtain ⟨st3, e3, q⟩ := p2
  obtain ⟨W3, s3, pr3, hW3, fz⟩ := freeze (os := [ov]) (xs := [y]) s1.rel s2 (.cons t2 .nil fun _ j o' x' h1 => by simp at h1)
  rw [frz_one] at s3
  unfold extS at e3
  split at e3
  · rename_i ds es e4 e5
    split at e3
    · rename_i hlen
      obtain ⟨a, xs, rfl, ha, ra, put⟩ := lst_at s3.rel (t1.tgt.later s2.pre) e4
      obtain ⟨y', hy, rv⟩ := fz 0 ov rfl
      simp at hy
      subst hy
      rw [e5] at rv
      cases (show R _ _ _ (.tuple es) from rv) with
      | tup w hb rz =>
        rename_i b zs
        refine .inl ⟨a, b, xs, zs, rfl, rfl, ha, SqT.of hb, by rw [ra.length, rz.length, sl_eq]; exact hlen, ?_⟩
        have s4 := put (xs ++ zs) (ds ++ es) st3 (ra.app rz) e3
        exact k _ _ _ _ _ _ q ((s1.trans r s3).trans r s4) R.non
    · cases e3
  · rename_i ds es e4 e5
    split at e3
    · rename_i hlen
      obtain ⟨a, xs, rfl, ha, ra, put⟩ := lst_at s3.rel (t1.tgt.later s2.pre) e4
      obtain ⟨y', hy, rv⟩ := fz 0 ov rfl
      simp at hy
      subst hy
      rw [e5] at rv
      cases (show R _ _ _ (.list es) from rv) with
      | lst w hb rz =>
        rename_i b zs
        refine .inr ⟨a, b, xs, zs, rfl, rfl, ha, hb, by rw [ra.length, rz.length, sl_eq]; exact hlen, ?_⟩
        have s4 := put (xs ++ zs) (ds ++ es) st3 (ra.app rz) e3
        exact k _ _ _ _ _ _ q ((s1.trans r s3).trans r s4) R.non
    · cases e3
  · cases e3
theorem mrg_ok {W : Addr → Prop} {H : Hp} : ∀ {more : List (Key × V)} {fs : List (D × D)} {acc : List (Key × V)} {es : List (D × D)}, more.map (fun p => keyD p.1) = fs.map (·.1) → RA W H (more.map (·.2)) (fs.map (·.2)) →
    acc.map (fun p => keyD p.1) = es.map (·.1) → RA W H (acc.map (·.2)) (es.map (·.2)) → (mergeK acc more).map (fun p => keyD p.1) = (mrgD es fs).map (·.1) ∧ RA W H ((mergeK acc more).map (·.2)) ((mrgD es fs).map (·.2))
  | [], [], acc, es, _, _, h1, h2 => ⟨h1, h2⟩
  | [], _ :: _, _, _, h, _, _, _ => by simp at h
  | _ :: _, [], _, _, h, _, _, _ => by simp at h
  | m :: more, p :: fs, acc, es, h, r, h1, h2 => by
    simp only [List.map_cons, List.cons.injEq] at h
    cases r with
    | cons r1 r2 =>
      obtain ⟨g1, g2⟩ := put_gen keyD keyEq_keyD (k := m.1) r1 h1 h2
      rw [h.1] at g1 g2
      exact mrg_ok (more := more) (fs := fs) (acc := putK acc m.1 m.2) (es := putD p.1 p.2 es) h.2 r2 g1 g2
theorem ik_T {kvs : List (List Key × V)} {es : List (D × D)} (h : kvs.map (fun p => PyData.tuple (p.1.map keyD)) = es.map (·.1)) (hk : intKeys es = true) : kvs = [] ∧ es = [] := by
  cases kvs with
  | nil => cases es with
    | nil => exact ⟨rfl, rfl⟩
    | cons _ _ => simp at h
  | cons p r => cases es with
    | nil => simp at h
    | cons q t =>
      obtain ⟨d, v⟩ := q
      simp only [List.map_cons, List.cons.injEq] at h
      rw [← h.1] at hk
      simp [intKeys] at hk
theorem s_upd {o e : IE} {o' v : Expr} {m : Str} {apos cpos : Pos} (hm : m = "update") (hl : (apos.endLine == cpos.line) = true) (hb : baseB o' = true) (ho : Sound X S o' o) (he : Sound X S v e) (hs : starB v = false) :
    Sound X S (.Call (.Attribute o' m apos) [v] [] cpos) (.upd o e) := by
  subst hm
  refine Sound.plain rfl ((pe_bm PySem.F.plainAttrs_dict PySem.F.slot_dict_update PySem.F.type_dict_update mt_upd ho.pe (pa_cons he.pe pa_nil (notStar hs _ _)) (base_ok hb) (few_one hs) hl (notStar hs _ _) rfl).weak fun σ H Q h => ?_) rfl
  obtain ⟨ρ, st, W, P, r, w, k⟩ := h
  refine ⟨ρ, st, W, _, r, w, fun oo st1 ρ1 W1 H1 x p1 s1 t1 => ?_⟩
  obtain ⟨h1, p1⟩ := p1
  have hat : ∀ i, oo.tag = .slot i → σ[i]? = some (some x) := fun i e1 => by
    have h := t1
    unfold RT at h
    rw [e1] at h
    exact h.2
  have hty : tyV X.K "dict" x H1 := by
    unfold ownDct at h1
    split at h1
    · rename_i i e1
      split at h1
      · rename_i es e2
        obtain ⟨a, d', hv, ha, wa, ro, nr⟩ := s1.rel.ow i _ e2
        cases hv
        rw [hat i e1] at ha; cases ha
        rcases ro with ⟨kvs, e4, _⟩ | ⟨kvs, e4, _⟩
        · exact .inr (.inr (.inl ⟨rfl, .inl ⟨kvs, e4⟩⟩))
        · exact .inr (.inr (.inl ⟨rfl, .inr ⟨kvs, e4⟩⟩))
      · cases h1
    · cases h1
  refine ⟨hty, ρ1, st1, W1, _, s1.rel, p1, fun ov st2 ρ2 W2 H2 y p2 s2 t2 => ?_⟩
  obtain ⟨st3, e3, q⟩ := p2
  obtain ⟨W3, s3, pr3, hW3, fz⟩ := freeze (os := [ov]) (xs := [y]) s1.rel s2 (.cons t2 .nil fun _ j o' x' h1 => by simp at h1)
  rw [frz_one] at s3
  unfold updS at e3
  split at e3
  · rename_i i e1
    have to := hat i e1
    split at e3
    · rename_i es fs e4 e5
      split at e3
      · rename_i hc
        obtain ⟨c1, c2, c3, c4⟩ := hc
        cases e3
        obtain ⟨y', hy, rv⟩ := fz 0 ov rfl
        simp at hy
        subst hy
        rw [e5] at rv
        obtain ⟨a, d', hv, ha, wa, ro, nr⟩ := s3.rel.ow i _ e4
        cases hv
        rw [to] at ha; cases ha
        have hsl : SL = sizeLine := rfl
        cases (show R _ _ _ (.dict fs) from rv) with
        | dK wb hb kb rb =>
          rename_i b more
          have hne : a ≠ b := fun z => wb (z ▸ wa)
          have hlb : more.length = fs.length := by have := congrArg List.length kb; simpa using this
          rcases ro with ⟨kvs, ea, ka, ra⟩ | ⟨kvs, ea, ka, ra⟩
          · have hla : kvs.length = es.length := by have := congrArg List.length ka; simpa using this
            obtain ⟨g1, g2⟩ := mrg_ok kb rb ka ra
            refine ⟨a, b, kvs, more, H2, fun _ _ _ I => I, rfl, rfl, hne, ea, hb, by omega, ?_⟩
            have ro' : RO W3 (upd H2 a (.dK (mergeK kvs more))) a (.dict (mrgD es fs)) := .inl ⟨_, upd_same, g1, g2.pres fun c q wc ec => ⟨wc, by rw [upd_ne (fun z => wc (by rw [z]; exact wa))]; exact ec⟩⟩
            have s4 := s3.rel.put e4 to ro'
            exact k _ _ _ _ _ _ q ((s1.trans r s3).trans r s4) R.non
          · obtain ⟨rfl, rfl⟩ := ik_T ka c1
            obtain ⟨g1, g2⟩ := mrg_ok (acc := []) (es := []) kb rb rfl .nil
            refine ⟨a, b, [], more, upd H2 a (.dK []), fun _ _ _ I => Inv.flipK I ea, rfl, rfl, hne, upd_same, by rw [upd_ne fun z => hne z.symm]; exact hb, by simp at c4 ⊢; omega, ?_⟩
            rw [upd_upd]
            have ro' : RO W3 (upd H2 a (.dK (mergeK [] more))) a (.dict (mrgD [] fs)) := .inl ⟨_, upd_same, g1, g2.pres fun c q wc ec => ⟨wc, by rw [upd_ne (fun z => wc (by rw [z]; exact wa))]; exact ec⟩⟩
            have s4 := s3.rel.put e4 to ro'
            exact k _ _ _ _ _ _ q ((s1.trans r s3).trans r s4) R.non
        | dT wb hb kb rb =>
          obtain ⟨_, rfl⟩ := ik_T kb c2
          simp at c3
      · cases e3
    · cases e3
  · cases e3
theorem s_rmd {o e : IE} {o' v : Expr} {m : Str} {apos cpos : Pos} (c : XOk F N S X sc) (hm : m = "remove") (hl : (apos.endLine == cpos.line) = true) (hb : baseB o' = true) (ho : Sound X S o' o) (he : Sound X S v e) (hs : starB v = false) :
    Sound X S (.Call (.Attribute o' m apos) [v] [] cpos) (.rmd o e) := by
  subst hm
  refine Sound.plain rfl ((pe_bm PySem.F.plainAttrs_list PySem.F.slot_list_remove PySem.F.type_list_remove (mt_rmd (by have := c.room; omega)) ho.pe (pa_cons he.pe pa_nil (notStar hs _ _)) (base_ok hb) (few_one hs) hl (notStar hs _ _) rfl).weak fun σ H Q h => ?_) rfl
  obtain ⟨ρ, st, W, P, r, w, k⟩ := h
  refine ⟨ρ, st, W, _, r, w, fun oo st1 ρ1 W1 H1 x p1 s1 t1 => ?_⟩
  obtain ⟨h1, p1⟩ := p1
  obtain ⟨ds1, h1⟩ := Option.isSome_iff_exists.mp h1
  refine ⟨tyL s1.rel t1.tgt h1, ρ1, st1, W1, _, s1.rel, p1, fun ov st2 ρ2 W2 H2 y p2 s2 t2 => ?_⟩
  obtain ⟨st3, e3, q⟩ := p2
  obtain ⟨W3, s3, pr3, hW3, fz⟩ := freeze (os := [ov]) (xs := [y]) s1.rel s2 (.cons t2 .nil fun _ j o' x' h1 => by simp at h1)
  rw [frz_one] at s3
  unfold rmdS at e3
  split at e3
  · rename_i ds d e4 e5
    split at e3
    · rename_i hsh
      split at e3
      · rename_i j hj
        obtain ⟨a, xs, rfl, ha, ra, put⟩ := lst_at s3.rel (t1.tgt.later s2.pre) e4
        obtain ⟨y', hy, rv⟩ := fz 0 ov rfl
        simp at hy
        subst hy
        rw [e5] at rv
        refine ⟨W3, a, y, xs, ds, d, j, rfl, rfl, ha, ra, rv, hsh.1, hsh.2, hj, ?_⟩
        have s4 := put (xs.eraseIdx j) (ds.eraseIdx j) st3 (ra.erase j) e3
        exact k _ _ _ _ _ _ q ((s1.trans r s3).trans r s4) R.non
      · cases e3
    · cases e3
  · cases e3
theorem s_fnd {o e : IE} {o' v : Expr} {m : Str} {apos cpos : Pos} (c : XOk F N S X sc) (hm : m = "index") (hl : (apos.endLine == cpos.line) = true) (hb : baseB o' = true) (ho : Sound X S o' o) (he : Sound X S v e) (hs : starB v = false) :
    Sound X S (.Call (.Attribute o' m apos) [v] [] cpos) (.fnd o e) := by
  subst hm
  refine Sound.plain rfl ((pe_bm PySem.F.plainAttrs_list PySem.F.slot_list_index PySem.F.type_list_index (mt_fnd (by have := c.room; omega)) ho.pe (pa_cons he.pe pa_nil (notStar hs _ _)) (base_ok hb) (few_one hs) hl (notStar hs _ _) rfl).weak fun σ H Q h => ?_) rfl
  obtain ⟨ρ, st, W, P, r, w, k⟩ := h
  refine ⟨ρ, st, W, _, r, w, fun oo st1 ρ1 W1 H1 x p1 s1 t1 => ?_⟩
  obtain ⟨⟨ds0, h1⟩, p1⟩ := p1
  obtain ⟨a0, xs0, rfl, hx0, _⟩ := t1.read s1.rel h1
  refine ⟨.inl ⟨rfl, xs0, SqL.of hx0⟩, ρ1, st1, W1, _, s1.rel, p1, fun ov st2 ρ2 W2 H2 y p2 s2 t2 => ?_⟩
  obtain ⟨ok, ds, d, j, e1, e2, h3, h4, h5, q⟩ := p2
  have t1 := t1.later s2 s1.rel ok
  obtain ⟨a, xs, ea, ha, ra⟩ := t1.read s2.rel e1
  cases ea
  have rd := t2.read s2.rel e2
  exact ⟨W2, a0, y, xs, ds, d, j, rfl, rfl, ha, ra, rd, h3, h4, h5, k _ _ _ _ _ _ q (s1.trans r s2) (R.int _)⟩
theorem s_ctd {o e : IE} {o' v : Expr} {m : Str} {apos cpos : Pos} (c : XOk F N S X sc) (hm : m = "count") (hl : (apos.endLine == cpos.line) = true) (hb : baseB o' = true) (ho : Sound X S o' o) (he : Sound X S v e) (hs : starB v = false) :
    Sound X S (.Call (.Attribute o' m apos) [v] [] cpos) (.ctd o e) := by
  subst hm
  refine Sound.plain rfl ((pe_bm PySem.F.plainAttrs_list PySem.F.slot_list_count PySem.F.type_list_count (mt_ctd (by have := c.room; omega)) ho.pe (pa_cons he.pe pa_nil (notStar hs _ _)) (base_ok hb) (few_one hs) hl (notStar hs _ _) rfl).weak fun σ H Q h => ?_) rfl
  obtain ⟨ρ, st, W, P, r, w, k⟩ := h
  refine ⟨ρ, st, W, _, r, w, fun oo st1 ρ1 W1 H1 x p1 s1 t1 => ?_⟩
  obtain ⟨⟨ds0, h1⟩, p1⟩ := p1
  obtain ⟨a0, xs0, rfl, hx0, _⟩ := t1.read s1.rel h1
  refine ⟨.inl ⟨rfl, xs0, SqL.of hx0⟩, ρ1, st1, W1, _, s1.rel, p1, fun ov st2 ρ2 W2 H2 y p2 s2 t2 => ?_⟩
  obtain ⟨ok, ds, d, e1, e2, h3, h4, q⟩ := p2
  have t1 := t1.later s2 s1.rel ok
  obtain ⟨a, xs, ea, ha, ra⟩ := t1.read s2.rel e1
  cases ea
  have rd := t2.read s2.rel e2
  exact ⟨W2, a0, y, xs, ds, d, rfl, rfl, ha, ra, rd, h3, h4, k _ _ _ _ _ _ q (s1.trans r s2) (R.int _)⟩
theorem takes0 {X : Cx} (hn : X.xe = fun _ _ => False) : Takes X (fun _ _ _ _ => False) := by
  rintro u s' ⟨a, B, sI, pins, σ, H, cls, d, e, I, nb, up, sky, na, os, ag, h⟩
  exact h.elim
theorem s_rmv {o e : IE} {o' v : Expr} {m : Str} {apos cpos : Pos} (c : XOk F N S X sc) (hm : m = "remove") (hl : (apos.endLine == cpos.line) = true) (hb : baseB o' = true) (ho : Sound X S o' o) (he : Sound X S v e) (hs : starB v = false) :
    Sound X S (.Call (.Attribute o' m apos) [v] [] cpos) (.rmv o e) := by
  subst hm
  refine Sound.plain rfl ((pe_remX c.calm (takes0 c.noex) ho.pe he.pe (base_ok hb) (few_one hs) hl (notStar hs _ _) rfl).weak fun σ H Q h => ?_) rfl
  obtain ⟨ρ, st, W, P, r, w, k⟩ := h
  refine ⟨ρ, st, W, _, r, w, fun oo st1 ρ1 W1 H1 x p1 s1 t1 => ?_⟩
  obtain ⟨h1, p1⟩ := p1
  obtain ⟨ds1, h1⟩ := Option.isSome_iff_exists.mp h1
  refine ⟨tyL s1.rel t1.tgt h1, ρ1, st1, W1, _, s1.rel, p1, fun ov st2 ρ2 W2 H2 y p2 s2 t2 => ?_⟩
  obtain ⟨n, st3, e1, e3, q⟩ := p2
  obtain rfl := t2.toInt s2.rel e1
  unfold rmvS at e3
  split at e3
  · rename_i ds e4
    split at e3
    · rename_i ns e5
      split at e3
      · rename_i hn
        obtain ⟨a, xs, rfl, ha, ra, put⟩ := lst_at s2.rel (t1.tgt.later s2.pre) e4
        rw [ints_map e5] at ra
        have ex := ra.ints_of
        subst ex
        refine ⟨a, ns, n, rfl, rfl, ha, fun _ => ?_, fun z => absurd hn z⟩
        have s4 := put _ _ st3 (RA.ints (ns.erase n)) e3
        exact k _ _ _ _ _ _ q ((s1.trans r s2).trans r s4) R.non
      · cases e3
    · cases e3
  · cases e3
theorem seqIndex_ixN {n : Nat} {i : Int} {k : Nat} (h : ixN n i = some k) : seqIndex? i n = some k ∧ k < n ∧ -(n : Int) ≤ i ∧ i < n := ixN_seq h
theorem s_pop0 {o : IE} {o' : Expr} {m : Str} {apos cpos : Pos} (hm : m = "pop") (hl : (apos.endLine == cpos.line) = true) (hb : baseB o' = true) (ho : Sound X S o' o) : Sound X S (.Call (.Attribute o' m apos) [] [] cpos) (.pop o .nil) := by
  subst hm
  refine Sound.plain rfl ((pe_bm0 PySem.F.plainAttrs_list PySem.F.slot_list_pop PySem.F.type_list_pop mt_pop ho.pe (base_ok hb) hl).weak fun σ H Q h => ?_) rfl
  obtain ⟨ρ, st, W, P, r, w, k⟩ := h
  refine ⟨ρ, st, W, _, r, w, fun oo st1 ρ1 W1 H1 x p1 s1 t1 => ?_⟩
  obtain ⟨h1, p1⟩ := p1
  obtain ⟨ds1, h1⟩ := Option.isSome_iff_exists.mp h1
  refine ⟨tyL s1.rel t1.tgt h1, ?_⟩
  obtain ⟨d, st3, e3, q⟩ := p1
  unfold popS at e3
  rw [h1] at e3
  simp only [List.map_nil] at e3
  cases e4 : ds1[ds1.length - 1]? with
  | none => rw [e4] at e3; cases e3
  | some d0 =>
    rw [e4] at e3
    obtain ⟨st', e5, e6⟩ := Option.map_eq_some_iff.mp e3
    cases e6
    obtain ⟨a, xs, rfl, ha, ra, put⟩ := lst_at s1.rel t1.tgt h1
    obtain ⟨y, hy, ry⟩ := ra.get e4
    refine ⟨a, xs, y, rfl, rfl, ha, by rw [ra.length]; exact hy, ?_⟩
    have ra' : RA W1 H1 xs.dropLast ds1.dropLast := by
      rw [List.dropLast_eq_take, List.dropLast_eq_take, ra.length]
      exact ra.take _
    have s4 := put _ _ st3 ra' e5
    exact k _ _ _ _ _ _ q (s1.trans r s4) (ry.pres s4.fr.keep)
theorem s_pop1 {o e : IE} {o' v : Expr} {m : Str} {apos cpos : Pos} (hm : m = "pop") (hl : (apos.endLine == cpos.line) = true) (hb : baseB o' = true) (ho : Sound X S o' o) (he : Sound X S v e) (hs : starB v = false) :
    Sound X S (.Call (.Attribute o' m apos) [v] [] cpos) (.pop o (.cons e .nil)) := by
  subst hm
  refine Sound.plain rfl ((pe_bm PySem.F.plainAttrs_list PySem.F.slot_list_pop PySem.F.type_list_pop mt_popAt ho.pe (pa_cons he.pe pa_nil (notStar hs _ _)) (base_ok hb) (few_one hs) hl (notStar hs _ _) rfl).weak fun σ H Q h => ?_) rfl
  obtain ⟨ρ, st, W, P, r, w, k⟩ := h
  refine ⟨ρ, st, W, _, r, w, fun oo st1 ρ1 W1 H1 x p1 s1 t1 => ?_⟩
  obtain ⟨h1, p1⟩ := p1
  obtain ⟨ds1, h1⟩ := Option.isSome_iff_exists.mp h1
  refine ⟨tyL s1.rel t1.tgt h1, ρ1, st1, W1, _, s1.rel, p1, fun ov st2 ρ2 W2 H2 y p2 s2 t2 => ?_⟩
  obtain ⟨_, d, st3, e3, q⟩ := p2
  unfold popS at e3
  cases e4 : lstOf oo st2 with
  | none => rw [e4] at e3; cases e3
  | some ds =>
    rw [e4] at e3
    simp only [List.map_cons, List.map_nil] at e3
    split at e3
    · rename_i h; cases h
    · rename_i ds' i e4' e5
      cases e4'
      simp only [List.cons.injEq, and_true] at e5
      split at e3
      · rename_i hsl
        split at e3
        · rename_i j e6
          split at e3
          · rename_i d0 e7
            obtain ⟨st', e8, e9⟩ := Option.map_eq_some_iff.mp e3
            cases e9
            obtain ⟨a, xs, rfl, ha, ra, put⟩ := lst_at s2.rel (t1.tgt.later s2.pre) e4
            obtain ⟨z, hz, rz⟩ := ra.get e7
            obtain ⟨g1, g2, g3, g4⟩ := seqIndex_ixN e6
            have hlen := ra.length
            have hsl : ds.length ≤ 16777216 := hsl
            refine ⟨a, xs, i, j, z, rfl, by rw [t2.toInt s2.rel e5], ha, by omega, by omega, by rw [hlen]; exact g1, hz, ?_⟩
            have s4 := put _ _ st3 (ra.erase j) e8
            exact k _ _ _ _ _ _ q ((s1.trans r s2).trans r s4) (rz.pres s4.fr.keep)
          · cases e3
        · cases e3
      · cases e3
    · cases e3

/-! ### records -/
/-- a new object, perhaps changed, is the store's from now on -/
theorem Rel.push {K : PySem.W.Frag} {ρ ρ0 : List Addr} {st st0 : Stt} {W W0 : Addr → Prop} {σ : L2.St} {H H0 : Hp} {a : Addr} {ob : SObj} {o : HO} (r0 : Rel K ρ0 st0 W0 σ H0) (s : Step K ρ0 st0 W0 σ H0 ρ st W σ H)
    (wa : W a) (nl : ¬ Lc ρ st.env σ a) (h0 : H0 a = none) (rs : RS (ρ ++ [a]) (upd H a o) a ob) : Step K ρ0 st0 W0 σ H0 (ρ ++ [a]) { st with sto := st.sto ++ [ob] } W σ (upd H a o) := by
  have r := s.rel
  have na : a ∉ ρ := fun z => nl (.inl z)
  have pf : ρ <+: ρ ++ [a] := List.prefix_append _ _
  have pr : Pres W H W (upd H a o) := fun c q wc e => ⟨wc, by rw [upd_ne (fun z => wc (by rw [z]; exact wa))]; exact e⟩
  refine ⟨⟨⟨by simp [r.s.len], ?_, fun j q b h1 h2 => ?_, fun b wb => ?_⟩, r.len, fun i v h => ?_, fun i v h => ?_, r.ap⟩, ⟨s.fr.keep.trans pr, fun c wc l => ?_, fun c hc => ?_⟩, s.pre.trans pf, fun b l => ?_⟩
  · rw [List.nodup_append]
    exact ⟨r.s.nd, by simp, fun x hx y hy => by simp at hy; subst hy; exact fun z => na (z ▸ hx)⟩
  · by_cases hj : j < st.sto.length
    · have h1 : (st.sto ++ [ob])[j]? = some q := h1
      rw [List.getElem?_append_left hj] at h1
      rw [List.getElem?_append_left (by rw [← r.s.len]; exact hj)] at h2
      obtain ⟨w, z⟩ := r.s.at_ j q b h1 h2
      exact ⟨w, z.ext (upd_ne fun y => na (by rw [← y]; exact List.mem_of_getElem? h2)) pf⟩
    · have h1 : (st.sto ++ [ob])[j]? = some q := h1
      rw [List.getElem?_append_right (Nat.le_of_not_lt hj)] at h1
      rw [List.getElem?_append_right (by rw [← r.s.len]; exact Nat.le_of_not_lt hj), ← r.s.len] at h2
      cases hk : j - st.sto.length with
      | zero =>
        rw [hk] at h1 h2
        simp at h1 h2
        subst h1 h2
        exact ⟨wa, rs⟩
      | succ m => rw [hk] at h1; simp at h1
  · by_cases z : b = a
    · rw [z, upd_same]; simp
    · rw [upd_ne z]; exact r.s.wn b wb
  · obtain ⟨x, h1, h2⟩ := r.fz i v h
    exact ⟨x, h1, h2.pres pr pf⟩
  · obtain ⟨b, d, h1, h2, h3, h4, h5⟩ := r.ow i v h
    have ne : b ≠ a := fun z => nl (.inr ⟨i, v, h, by rw [← z]; exact h2⟩)
    refine ⟨b, d, h1, h2, h3, h4.pres pr (upd_ne ne), fun z => ?_⟩
    rcases List.mem_append.mp z with z | z
    · exact h5 z
    · simp at z
      exact ne z
  · obtain ⟨w1, e1⟩ := s.fr.hold c wc l
    exact ⟨w1, by rw [upd_ne (fun z => r0.s.wn c wc (by rw [z]; exact h0))]; exact e1⟩
  · by_cases z : c = a
    · rw [z, upd_same]; simp
    · rw [upd_ne z]; exact s.fr.there c hc
  · rcases l with l | l
    · rcases List.mem_append.mp l with z | z
      · exact s.sub b (.inl z)
      · simp at z
        subst z
        exact .inr h0
    · exact s.sub b (.inr l)
def RFs (ρ : List Addr) : List (Key × V) → List (Str × SV) → Prop := Paired fun (p : Key × V) (q : Str × SV) => p.1 = Sum.inr q.1 ∧ RSV ρ q.2 p.2
theorem RSV.later {ρ ρ' : List Addr} {v : SV} {x : V} (h : RSV ρ v x) (p : ρ <+: ρ') : RSV ρ' v x := by
  cases v with
  | int i => exact h
  | ref j =>
    obtain ⟨a, h1, h2⟩ := h
    obtain ⟨t, rfl⟩ := p
    exact ⟨a, by rw [List.getElem?_append_left (List.getElem?_eq_some_iff.mp h1).1]; exact h1, h2⟩
/-- the fields of a record, from the left -/
def SoundR (X : Cx) (S : SpecK) (ks : List (Option Expr)) (vs : List Expr) (fs : IR) : Prop := ∃ trs : List (TE × TE), (∀ pos, PPs X pos ks vs trs) ∧
  ∀ (σ : L2.St) (H : Hp) (Q : List (V × V) → Hp → Prop), (∃ ρ st W P, Rel X.K ρ st W σ H ∧ wpR S fs P st ∧
    ∀ fv st' ρ' W' H' kvs, P fv st' → Step X.K ρ st W σ H ρ' st' W' σ H' → RFs ρ' kvs fv → fv.map (·.1) = namesR fs → Q (kvs.map fun kv => (kV kv.1, kv.2)) H') → tPairs trs σ H Q
theorem sr_nil : SoundR X S [] [] .nil := ⟨[], fun _ => pps_nil, fun σ H Q ⟨ρ, st, W, P, r, w, k⟩ => k _ _ _ _ _ [] w r.refl .nil rfl⟩
theorem sr_cons {x : Str} {e : IE} {fs : IR} {v : Expr} {ks : List (Option Expr)} {vs : List Expr} {j : Nat} {p : Pos} (he : Sound X S v e) (hr : SoundR X S ks vs fs) : SoundR X S (some (.Constant (.str x) j p) :: ks) (v :: vs) (.cons x e fs) := by
  obtain ⟨trs, h1, h2⟩ := hr
  refine ⟨(tC (.str x), TE' X.K (wpE S e)) :: trs, fun pos => pps_cons pe_str he.pe (h1 pos), fun σ H Q ⟨ρ, st, W, P, r, w, k⟩ => ?_⟩
  show TE' X.K (wpE S e) σ H _
  refine ⟨ρ, st, W, _, r, w, fun o st1 ρ1 W1 H1 y p1 s1 t1 => h2 _ _ _ ?_⟩
  rcases p1 with ⟨i, e1, p1⟩ | ⟨ns, e1, p1⟩
  · obtain rfl := t1.toInt s1.rel e1
    refine ⟨ρ1, st1, W1, _, s1.rel, p1, fun fv st2 ρ2 W2 H2 kvs q s2 rf nm => ?_⟩
    exact k _ _ _ _ _ ((Sum.inr x, V.int i) :: kvs) q (s1.trans r s2) (.cons ⟨rfl, rfl⟩ rf) (by simp [namesR, nm])
  · subst e1
    obtain ⟨a, d, e2, rfl, wa, ro, nl, h0⟩ := t1
    cases e2
    obtain ⟨xs, ha, ra⟩ := ro
    rw [ra.ints_of] at ha
    have s1' := Rel.push (ob := .lst ns) (o := .lst (ns.map V.int)) r s1 wa nl h0 upd_same
    rw [upd_self ha] at s1'
    refine ⟨ρ1 ++ [a], _, W1, _, s1'.rel, p1, fun fv st2 ρ2 W2 H2 kvs q s2 rf nm => ?_⟩
    refine k _ _ _ _ _ ((Sum.inr x, V.ref a) :: kvs) q (s1'.trans r s2) (.cons ⟨rfl, RSV.later (v := .ref _) ⟨a, ?_, rfl⟩ s2.pre⟩ rf) (by simp [namesR, nm])
    rw [s1.rel.s.len]
    simp
theorem mergeK_self : ∀ {more acc : List (Key × V)}, (more.map (·.1)).Nodup → (∀ p ∈ more, valV acc p.1 = none) → mergeK acc more = acc ++ more
  | [], acc, _, _ => by simp [mergeK]
  | p :: r, acc, nd, h => by
    have nd := List.nodup_cons.mp nd
    show mergeK (putK acc p.1 p.2) r = _
    rw [putK_new _ (h p List.mem_cons_self), mergeK_self nd.2 fun q hq => ?_]
    · simp
    · rw [valV_snoc _ _ _ _ (h p List.mem_cons_self)]
      have : q.1 ≠ p.1 := fun z => nd.1 (by show p.1 ∈ _; rw [← z]; exact List.mem_map_of_mem hq)
      rw [if_neg this]
      exact h q (List.mem_cons_of_mem _ hq)
theorem s_rcd {fs : IR} {ks : List (Option Expr)} {vs : List Expr} {p : Pos} (h : SoundR X S ks vs fs) (nd : (namesR fs).Nodup) (h15 : ks.length ≤ 15) (h0 : ks.isEmpty = false) (hall : ks.all (·.isSome) = true) (hl : ks.length = vs.length)
    (hlen : ks.length = (namesR fs).length) : Sound X S (.Dict ks vs p) (.rcd fs) := by
  obtain ⟨trs, h1, h2⟩ := h
  refine Sound.plain rfl ((pe_disp (h1 p) hall hl (by intro z; rw [z] at h0; simp at h0) h15).weak fun σ H Q hw => ?_) rfl
  obtain ⟨ρ, st, W, P, r, w, k⟩ := hw
  intro b hb
  have gr := r.grow (W' := fun c => W c ∨ c = b) (Ext.upd (o := HO.dK []) hb) (fun c w => .inl w) (fun c w => w.elim .inl fun z => .inr (by subst z; exact ⟨hb, by rw [upd_same]; simp⟩))
  have nb : ¬ Lc ρ st.env σ b := fun l => (Lc.there r l).2 hb
  refine h2 _ _ _ ⟨ρ, st, _, _, gr.rel, w, fun fv st1 ρ1 W1 H1 kvs q s1 rf nm => ?_⟩
  obtain ⟨wb, eb⟩ := s1.fr.hold b (.inr rfl) nb
  rw [upd_same] at eb
  have keys : kvs.map (·.1) = (namesR fs).map Sum.inr := by
    rw [← nm, List.map_map]
    clear q nm
    induction rf with
    | nil => rfl
    | cons a _ ih => simp only [List.map_cons, a.1, ih]; rfl
  have kl : kvs.length ≤ 15 := by
    have := congrArg List.length keys
    simp only [List.length_map] at this
    omega
  have nd' : (kvs.map (·.1)).Nodup := by
    rw [keys]
    exact List.Pairwise.map _ (fun a b h z => h (Sum.inr.inj z)) nd
  refine ⟨eb, kvs, rfl, kl, ?_⟩
  rw [mergeK_self nd' (fun _ _ => rfl), List.nil_append]
  -- the record is filled, then it is the store's
  have nl1 : ¬ Lc ρ1 st1.env σ b := fun l => by
    rcases s1.sub b l with z | z
    · exact nb z
    · rw [upd_same] at z; cases z
  have s2 := Rel.push (ob := .rcd fv) (o := .dK kvs) r (gr.trans r s1) wb nl1 hb ⟨kvs, upd_same, Paired.mapP rf fun x y ⟨z1, z2⟩ => ⟨z1, z2.later (List.prefix_append _ _)⟩⟩
  refine k _ _ _ _ _ _ q s2 ⟨b, ?_, rfl⟩
  rw [s1.rel.s.len]
  simp
end
end Ev
end

section
set_option Elab.async false
set_option linter.all false
set_option maxRecDepth 100000
/-! Ev15: what is walked: lists, tuples, ranges, enumerate, zip. -/
namespace Ev
open PySem PySem.Spec PyProof.Rows L2

/-! ### enumerate of a tuple -/
set_option maxHeartbeats 1000000 in
theorem meets_en {v : Value} {o : Obj} {G : Heap → Prop} (B : Begins v o G) :
    Meets (Builtin.«enumerate.__new__» ⟨[.type "enumerate", v], []⟩) (fun _ R s => G s.heap ∧
      R (.ok (.ret (.ref (s.heap.push o).objs.size))) { s with heap := (s.heap.push o).push { cls := .type "enumerate", data := .fields #[.none, .bool false, .ref s.heap.objs.size, rawInt 0, .none, .none] } }) :=
  .of_wp fun prog w A R s h => by
    obtain ⟨hp, g, d, tk, os⟩ := s
    obtain ⟨hG, h⟩ := h
    have hsub := sub_enumerate
    have qi : ∀ {A' : Around} {E : Value → Shared → Prop} {Q : Value → Shared → Prop}, Q (.ref hp.objs.size) ⟨hp.push o, g, d, tk, os⟩ → wpAny (model prog w) A' (pyIter v) Q E ⟨hp, g, d, tk, os⟩ :=
      fun q => B.iter prog w _ _ ⟨hp, g, d, tk, os⟩ _ hG q
    wp_walk using qi
    refine wpAny_stack_any fun st => wpAny_pure ?_
    split
    · rename_i c _ _ _ _ _
      cases (c == Value.type "enumerate") <;> (wp_walk using qi; exact ⟨_, rfl, h⟩)
    · wp_walk using qi
      exact ⟨_, rfl, h⟩
theorem call_en {prog : Program} {w : World} {A : Around} {E : Value → Shared → Prop} {s : Shared} {v : Value} {o : Obj} {G : Heap → Prop} {Q : Value → Shared → Prop} (B : Begins v o G) (hG : G s.heap)
    (h : ∀ h', IsEnum h' (s.heap.objs.size + 1) s.heap.objs.size 0 .none → h'.get? s.heap.objs.size = some o → (∀ b ob, s.heap.get? b = some ob → h'.get? b = some ob) → Q (.ref (s.heap.objs.size + 1)) { s with heap := h' }) :
    wpAny (model prog w) A (call (.type "enumerate") [v]) Q E s := by
  refine callType_new F.called_enumerate (by decide) (F.typeCall_enumerate_1 _) (F.newCall_enumerate_1 _) (fun obj => F.args_object_init_2 obj _) F.entry_enumerate_new (meets_en B) ⟨hG, ?_⟩
  have e1 : (s.heap.push o).objs.size = s.heap.objs.size + 1 := Heap.size_push ..
  show _ ∧ _
  rw [e1]
  have he : IsEnum ((s.heap.push o).push { cls := .type "enumerate", data := .fields #[.none, .bool false, .ref s.heap.objs.size, rawInt 0, .none, .none] }) (s.heap.objs.size + 1) s.heap.objs.size 0 .none := by
    have q := Heap.get?_push_size (s.heap.push o) (o := { cls := .type "enumerate", data := .fields #[.none, .bool false, .ref s.heap.objs.size, rawInt 0, .none, .none] }) rfl
    rw [e1] at q
    exact q
  exact ⟨⟨_, he, rfl⟩, h _ he (Heap.get?_push_of_some _ (Heap.get?_push_size _ B.free)) fun b ob x => Heap.get?_push_of_some _ (Heap.get?_push_of_some _ x)⟩
/-- the tuple at a, each item in a new pair -/
def IteT (K : PySem.W.Frag) (a : Addr) : It :=
  ⟨fun i H => ∃ (xs : List V) (x : V), SqT K H a xs ∧ xs[i]? = some x, fun i H v H' => ∃ T x, v = .ref T ∧ H T = none ∧ H' = upd H T (.tup [.int (i : Nat), x]) ∧ ∀ xs, SqT K H a xs → xs[i]? = some x, fun i H => ∃ xs : List V, SqT K H a xs ∧ xs.length = i⟩
theorem turn_enT {P : Program} {w : World} {K : PySem.W.Frag} {elts : List Expr} {kk : Nat} {tpos : Pos} (a e it : Addr) :
    Turn P w K (.Tuple elts kk tpos) (IteT K a) [e, it] e (fun i h => (∃ old, IsEnum h e it ((i : Nat) : Int) old) ∧ h.IsTupleIter it a i ∧ e ≠ it ∧ a ≠ it ∧ e ≠ a) where
  mem := by simp
  obj := fun i h st b hb => by
    obtain ⟨⟨old, he⟩, ⟨o, ho, hc, hd⟩, _⟩ := st
    rcases (by simpa using hb : b = e ∨ b = it) with rfl | rfl
    · exact ⟨_, he, fun v q => nomatch q⟩
    · exact ⟨o, ho, fun v q => by rw [hd] at q; cases q⟩
  keep := fun i h h' st k => let ⟨⟨old, he⟩, hi, hr⟩ := st; ⟨⟨old, k e (by simp) _ he⟩, hi.at fun o q => k it (by simp) o q, hr⟩
  item := by
    intro X hP hw hK hc i pins s σ H E I hf st hg
    subst hP hw hK
    obtain ⟨⟨old, he⟩, hit, hne, hai, hea⟩ := st
    obtain ⟨xs, x, hq, hx⟩ := hg
    obtain ⟨its, rv, p, hz⟩ := I.tuple hq
    obtain ⟨u, hu, ru⟩ := rv.get hx
    have hel : e < s.heap.objs.size := Heap.lt_size he
    have hil : it < s.heap.objs.size := by obtain ⟨_, q, _⟩ := hit; exact Heap.lt_size q
    have hh : X.A.in1.handled = none := I.ok.hd hc
    refine wpAny_pyNext_enum_itemD (Draws.tuple hh it a hai its.toArray) he ⟨hit, show s.heap.IsTuple a its.toArray from p⟩ (by have := (List.getElem?_eq_some_iff.mp hu).1; simpa using this) hne (by simp [hne, hea]) fun u' h' tk hu' ho hst hT hsz hk => ?_
    have : u' = u := by
      have q : its[i]? = some u' := by simpa using hu'
      rw [hu] at q
      exact (Option.some.inj q).symm
    subst this
    refine ⟨_, rfl, wpAny_letOwnedTupleGo_enum (s := { s with heap := h', toks := tk + 1 }) ho fun h'' he' sb => ?_⟩
    have hT2 : h''.get? s.heap.objs.size = some { cls := .type "tuple", data := .seq #[.int i tk, u'] } := (sb.2 _ (Nat.ne_of_gt hel)).trans hT
    have new : ObjOk X.prog X.w (upd H s.heap.objs.size (.tup [.int (i : Nat), x])) h'' s.heap.objs.size (.tup [.int (i : Nat), x]) :=
      ⟨by show 2 ≤ sizeLine; decide, [.int i tk, u'], .cons ⟨_, rfl⟩ (.cons ru .nil), ⟨_, hT2, rfl, _, rfl⟩⟩
    have I1 : Inv X pins σ (upd H s.heap.objs.size (.tup [.int (i : Nat), x])) { s with heap := h'', toks := tk + 1 } :=
      I.turnedNew (ch := [e, it]) (fun b ob hb q => (sb.2 b (fun z => hb (by simp [z]))).trans (hk b ob (fun z => hb (by simp [z])) (fun z => hb (by simp [z])) q)) hf (Nat.le_refl _) new
    refine ⟨.ref s.heap.objs.size, _, I1, rfl, ⟨_, x, rfl, I.hok.fresh (Nat.le_refl _), rfl, fun ys hy => by rw [I.tuple_inj hy hq]; exact hx⟩, ⟨⟨u', ?_⟩, hst.1.at fun o q => (sb.2 it (Ne.symm hne)).trans q, hne, hai, hea⟩, fun b hb => ?_⟩
    · have e1 : ((i + 1 : Nat) : Int) = (i : Int) + 1 := by omega
      rw [e1]
      exact he'
    · have hb' : b < s.heap.objs.size := by
        rcases (by simpa using hb : b = e ∨ b = it) with rfl | rfl
        · exact hel
        · exact hil
      rw [upd_ne (Nat.ne_of_lt hb')]
      exact (hf b hb).1
  done := by
    intro X hP hw hK hc i pins s σ H E I hf st hg
    subst hP hw hK
    obtain ⟨⟨old, he⟩, hit, hne, hai, hea⟩ := st
    obtain ⟨xs, hq, hx⟩ := hg
    obtain ⟨its, rv, p, hz⟩ := I.tuple hq
    obtain ⟨f0, f1, f2, f3, f4, f5⟩ := hf it (by simp)
    have hl := rv.length
    have hh : X.A.in1.handled = none := I.ok.hd hc
    have hi : i = its.toArray.size := by simp only [List.size_toArray]; omega
    subst hi
    exact wpAny_pyNext_enum_endD (Draws.tuple hh it a hai its.toArray) he ⟨hit, show s.heap.IsTuple a its.toArray from p⟩ fun h' eb => ⟨rfl, I.turned (t' := s.toks) (fun b o hb q => eb b o hb q) f0 f1 f3 f4 f5⟩
  self := fun A i s Q E st h => let ⟨⟨_, he⟩, _⟩ := st; wpAny_pyIter_enum he h

/-! ### what is walked, by data -/
def SqB (K : PySem.W.Frag) : Bool → Hp → Addr → List V → Prop
  | true, H, a, xs => SqT K H a xs
  | false, H, a, xs => SqL K H a xs
/-- x is a list (t false) or a tuple that shows ds -/
def Sq (K : PySem.W.Frag) (W : Addr → Prop) (H : Hp) (t : Bool) (x : V) (ds : List D) : Prop := ∃ a xs, x = .ref a ∧ SqB K t H a xs ∧ RA W H xs ds
/-- the iterator J yields ds while rd stands -/
def Wk (J : It) (rd : (Addr → Prop) → Hp → Prop) (ds : List D) : Prop := ∀ (i : Nat) (W : Addr → Prop) (H : Hp), (∀ a, W a → H a ≠ none) → rd W H →
  (i = ds.length → J.stop i H) ∧ ∀ d, ds[i]? = some d → J.go i H ∧ ∀ x H', J.yld i H x H' → Ext H H' ∧ R W H' x d
/-- what outs show when they are walked -/
def OuR (K : PySem.W.Frag) (os : List Out) (xs : List V) (W : Addr → Prop) (H : Hp) : Prop := ∀ (k : Nat) (o : Out) (x : V) (ds : List D), os[k]? = some o → xs[k]? = some x → iterV o.val = some ds → Sq K W H (isTupV o.val) x ds
theorem SqL.weak {K : PySem.W.Frag} {H : Hp} {a : Addr} {xs : List V} (h : SqL K (fun _ => none) a xs) : SqL K H a xs := by
  rcases h with h | h
  · rcases h with h | ⟨o, h⟩ <;> cases h
  · exact .inr h
section
variable {K : PySem.W.Frag} {ρ : List Addr} {st : Stt} {W : Addr → Prop} {σ : L2.St} {H H0 : Hp}
theorem RR.sq {x : V} {d : D} {ds : List D} (h : RR W H x d) (e : iterV (.dat d) = some ds) : Sq K W H (isTupV (.dat d)) x ds := by
  cases d with
  | list l => cases e; obtain ⟨a, xs, rfl, h1, h2⟩ := h; exact ⟨a, xs, rfl, SqL.of h1, h2⟩
  | tuple l => cases e; cases h with | tup w h1 h2 => exact ⟨_, _, rfl, SqT.of h1, h2⟩
  | _ => simp [iterV] at e
theorem RVal.sq {o : Val} {x : V} {ds : List D} (h : RVal K ρ W H o x) (e : iterV o = some ds) : Sq K W H (isTupV o) x ds := by
  cases o with
  | dat d => exact RR.sq (R.rr (d := d) h) e
  | ref j => simp [iterV] at e
  | scr ns =>
    cases e
    obtain ⟨a, rfl, h⟩ := h
    refine ⟨a, ns.map V.int, rfl, ?_, RA.ints ns⟩
    rcases h with ⟨ob, _, h⟩ | h
    · exact .inl (.inr ⟨ob, h⟩)
    · exact SqL.weak h
theorem RT.sq {o : Out} {x : V} {ds : List D} (r : Rel K ρ st W σ H) (h : RT K ρ st.env W σ H H0 o x) (e : iterV o.val = some ds) : Sq K W H (isTupV o.val) x ds := by
  obtain ⟨tag, val⟩ := o
  cases val with
  | dat d => exact RR.sq (h.read r rfl) e
  | ref j => simp [iterV] at e
  | scr ns =>
    cases tag with
    | frz => exact RVal.sq (K := K) (ρ := ρ) (o := .scr ns) h e
    | fre => obtain ⟨_, _, q, _⟩ := h; cases q
    | slot i => obtain ⟨_, _, q, _⟩ := r.ow i _ h.1; cases q
theorem ROs.our {os : List Out} {xs : List V} (r : Rel K ρ st W σ H) (h : ROs K ρ st.env W σ H H0 os xs) : OuR K os xs W H := fun k o x ds h1 h2 e => by
  obtain ⟨y, h3, h4⟩ := h.get h1
  rw [h2] at h3; cases h3
  exact h4.sq r e
end
theorem enumFrom_get {k : Int} : ∀ {ds : List D} {i : Nat} {d : D}, (enumFrom k ds)[i]? = some d → ∃ e, ds[i]? = some e ∧ d = .tuple [.int (k + i), e]
  | [], _, _, h => by simp [enumFrom] at h
  | e :: es, 0, d, h => by simp [enumFrom] at h; exact ⟨e, rfl, by rw [← h]; simp⟩
  | e :: es, i + 1, d, h => by
    obtain ⟨x, h1, h2⟩ := enumFrom_get (k := k + 1) (ds := es) (i := i) (by simpa [enumFrom] using h)
    refine ⟨x, by simpa using h1, ?_⟩
    rw [h2]
    have : k + 1 + (i : Int) = k + ((i + 1 : Nat) : Int) := by omega
    rw [this]
theorem enumFrom_len (k : Int) : ∀ ds : List D, (enumFrom k ds).length = ds.length
  | [] => rfl
  | _ :: es => by simp [enumFrom, enumFrom_len (k + 1) es]
theorem zipD_get : ∀ {as bs : List D} {i : Nat} {d : D}, (zipD as bs)[i]? = some d → ∃ a b, as[i]? = some a ∧ bs[i]? = some b ∧ d = .tuple [a, b]
  | [], _, _, _, h => by simp [zipD] at h
  | _ :: _, [], _, _, h => by simp [zipD] at h
  | a :: as, b :: bs, 0, d, h => by simp [zipD] at h; exact ⟨a, b, rfl, rfl, h.symm⟩
  | a :: as, b :: bs, i + 1, d, h => by
    obtain ⟨x, y, h1, h2, h3⟩ := zipD_get (as := as) (bs := bs) (i := i) (by simpa [zipD] using h)
    exact ⟨x, y, by simpa using h1, by simpa using h2, h3⟩
theorem zipD_len : ∀ (as bs : List D), (zipD as bs).length = min as.length bs.length
  | [], _ => by simp [zipD]
  | _ :: _, [] => by simp [zipD]
  | _ :: as, _ :: bs => by simp [zipD, zipD_len as bs]
theorem rngD_get : ∀ {n : Nat} {lo : Int} {i : Nat} {d : D}, (rngD lo n)[i]? = some d → d = .int (lo + i) ∧ i < n
  | 0, _, _, _, h => by simp [rngD] at h
  | n + 1, lo, 0, d, h => by simp [rngD] at h; exact ⟨by rw [← h]; simp, by omega⟩
  | n + 1, lo, i + 1, d, h => by
    obtain ⟨h1, h2⟩ := rngD_get (n := n) (lo := lo + 1) (i := i) (by simpa [rngD] using h)
    refine ⟨?_, by omega⟩
    rw [h1]
    have : lo + 1 + (i : Int) = lo + ((i + 1 : Nat) : Int) := by omega
    rw [this]
theorem rngD_len : ∀ (n : Nat) (lo : Int), (rngD lo n).length = n
  | 0, _ => rfl
  | n + 1, lo => by simp [rngD, rngD_len n]
/-- a new pair -/
theorem R.pair {W : Addr → Prop} {H : Hp} {T : Addr} {x y : V} {d e : D} (hW : ∀ a, W a → H a ≠ none) (hT : H T = none) (h1 : R W H x d) (h2 : R W H y e) : Ext H (upd H T (.tup [x, y])) ∧ R W (upd H T (.tup [x, y])) (.ref T) (.tuple [d, e]) := by
  have ex : Ext H (upd H T (.tup [x, y])) := Ext.upd hT
  have pr : Pres W H W (upd H T (.tup [x, y])) := fun a o w q => ⟨w, ex a o q⟩
  exact ⟨ex, .tup (fun w => hW T w hT) upd_same (.cons (h1.pres pr) (.cons (h2.pres pr) .nil))⟩
section
variable {K : PySem.W.Frag}
theorem wk_seq {t : Bool} {a : Addr} {ds : List D} {rd : (Addr → Prop) → Hp → Prop} (h : ∀ W H, rd W H → Sq K W H t (.ref a) ds) : Wk (if t then Itt K a else Itl K a) rd ds := by
  intro i W H hW hr
  obtain ⟨a', xs, e, hs, ra⟩ := h W H hr
  cases e
  cases t with
  | true =>
    refine ⟨fun e => ⟨xs, hs, by rw [ra.length]; omega⟩, fun d hd => ?_⟩
    obtain ⟨x, hx, rx⟩ := ra.get hd
    refine ⟨⟨xs, x, hs, hx⟩, fun y H' ⟨e, hy⟩ => ?_⟩
    subst e
    rw [hy xs hs] at hx; cases hx
    exact ⟨Ext.refl, rx⟩
  | false =>
    refine ⟨fun e => ⟨xs, hs, by rw [ra.length]; omega⟩, fun d hd => ?_⟩
    obtain ⟨x, hx, rx⟩ := ra.get hd
    refine ⟨⟨xs, x, hs, hx⟩, fun y H' ⟨e, hy⟩ => ?_⟩
    subst e
    rw [hy xs hs] at hx; cases hx
    exact ⟨Ext.refl, rx⟩
theorem wk_en {t : Bool} {a : Addr} {ds : List D} {rd : (Addr → Prop) → Hp → Prop} (h : ∀ W H, rd W H → Sq K W H t (.ref a) ds) : Wk (if t then IteT K a else Ite K a) rd (enumFrom 0 ds) := by
  intro i W H hW hr
  obtain ⟨a', xs, e, hs, ra⟩ := h W H hr
  cases e
  have hl := ra.length
  rw [enumFrom_len]
  cases t with
  | true =>
    refine ⟨fun e => ⟨xs, hs, by omega⟩, fun d hd => ?_⟩
    obtain ⟨d', hd', rfl⟩ := enumFrom_get hd
    obtain ⟨x, hx, rx⟩ := ra.get hd'
    refine ⟨⟨xs, x, hs, hx⟩, fun y H' ⟨T, x', e1, hT, e2, hy⟩ => ?_⟩
    subst e1 e2
    rw [hy xs hs] at hx; cases hx
    rw [Int.zero_add]
    exact R.pair hW hT (.int _) rx
  | false =>
    refine ⟨fun e => ⟨xs, hs, by omega⟩, fun d hd => ?_⟩
    obtain ⟨d', hd', rfl⟩ := enumFrom_get hd
    obtain ⟨x, hx, rx⟩ := ra.get hd'
    refine ⟨⟨xs, x, hs, hx⟩, fun y H' ⟨T, x', e1, hT, e2, hy⟩ => ?_⟩
    subst e1 e2
    rw [hy xs hs] at hx; cases hx
    rw [Int.zero_add]
    exact R.pair hW hT (.int _) rx
theorem wk_zip {t : Bool} {a b : Addr} {ds es : List D} {rd : (Addr → Prop) → Hp → Prop} (h : ∀ W H, rd W H → Sq K W H t (.ref a) ds) (g : ∀ W H, rd W H → Sq K W H t (.ref b) es) : Wk (if t then RZ.ItzT K a b else Itz K a b) rd (zipD ds es) := by
  intro i W H hW hr
  obtain ⟨a', xs, e, hs, ra⟩ := h W H hr
  obtain ⟨b', ys, e', hs', rb⟩ := g W H hr
  cases e
  cases e'
  have hl := ra.length
  have hl' := rb.length
  rw [zipD_len]
  cases t with
  | true =>
    refine ⟨fun e => ⟨xs, ys, hs, hs', by omega⟩, fun d hd => ?_⟩
    obtain ⟨d1, d2, hd1, hd2, rfl⟩ := zipD_get hd
    obtain ⟨x, hx, rx⟩ := ra.get hd1
    obtain ⟨y, hy, ry⟩ := rb.get hd2
    refine ⟨⟨xs, ys, x, y, hs, hs', hx, hy⟩, fun z H' ⟨T, x', y', e1, hT, e2, h1, h2⟩ => ?_⟩
    subst e1 e2
    rw [h1 xs hs] at hx; cases hx
    rw [h2 ys hs'] at hy; cases hy
    exact R.pair hW hT rx ry
  | false =>
    refine ⟨fun e => ⟨xs, ys, hs, hs', by omega⟩, fun d hd => ?_⟩
    obtain ⟨d1, d2, hd1, hd2, rfl⟩ := zipD_get hd
    obtain ⟨x, hx, rx⟩ := ra.get hd1
    obtain ⟨y, hy, ry⟩ := rb.get hd2
    refine ⟨⟨xs, ys, x, y, hs, hs', hx, hy⟩, fun z H' ⟨T, x', y', e1, hT, e2, h1, h2⟩ => ?_⟩
    subst e1 e2
    rw [h1 xs hs] at hx; cases hx
    rw [h2 ys hs'] at hy; cases hy
    exact R.pair hW hT rx ry
theorem wk_rng {lo : Int} {n : Nat} {rd : (Addr → Prop) → Hp → Prop} : Wk (Itr lo n) rd (rngD lo n) := by
  intro i W H hW hr
  rw [rngD_len]
  refine ⟨fun e => Nat.le_of_eq e.symm, fun d hd => ?_⟩
  obtain ⟨rfl, hi⟩ := rngD_get hd
  exact ⟨hi, fun x H' ⟨e1, e2⟩ => by subst e1 e2; exact ⟨Ext.refl, .int _⟩⟩
end
end Ev
end

section
set_option Elab.async false
set_option linter.all false
set_option maxRecDepth 100000
/-! Ev15z: zip(a, b, strict=True). -/
namespace Ev
open PySem PySem.Spec PyProof.Rows L2

abbrev IsZs (h : Heap) (z TI TO : Addr) (f0 : Value) : Prop := h.get? z = some { cls := .type "zip", dict := none, data := .fields #[f0, .bool false, .bool true, .ref TI, .ref TO], slots := #[] }
section
variable {prog : Program} {w : World} {A : Around} {E : Value → Shared → Prop} {s : Shared} {z TI TO i1 i2 : Addr} {fp1 fp2 : List Addr} {n i : Nat} {P1 P2 : Nat → Value → Prop} {St1 St2 : Nat → Heap → Prop} {a1 a2 : Value}
theorem nx_item {it : Value} {Q : Option Value → Shared → Prop} (h : wpAny (model prog w) A (Builtin.SmallTypes.nextOf it) (fun v s' => Q (some v) s') (fun _ _ => False) s) : wpAny (model prog w) A (Builtin.SmallTypes.nextOrEnd it) Q E s := by
  unfold Builtin.SmallTypes.nextOrEnd
  exact wpAny_bind (wpAny_attempt (wpAny_mono h (fun v s' q => wpAny_pure q) fun _ _ q => q.elim))
theorem nx_end {it : Value} {Q : Option Value → Shared → Prop} (h : wpAny (model prog w) A (Builtin.SmallTypes.nextOf it) (fun _ _ => False) (fun e s' => (∃ a o, e = .ref a ∧ s'.heap.get? a = some o ∧ o.cls = .type "StopIteration") ∧ Q none s') s) : wpAny (model prog w) A (Builtin.SmallTypes.nextOrEnd it) Q E s := by
  unfold Builtin.SmallTypes.nextOrEnd
  refine wpAny_bind (wpAny_attempt (wpAny_mono h (fun _ _ q => q.elim) fun e s' q => ?_))
  obtain ⟨⟨a, o, rfl, ho, hc⟩, q⟩ := q
  exact wpAny_bind (wpAny_isInstance (T := "StopIteration") (b := true) ⟨o, ho, hc⟩ isSubtype_stop (wpAny_pure q))
set_option maxHeartbeats 2000000 in
theorem zs_item {Q : Value → Shared → Prop} (S : ZipSep2 z TI TO i1 i2 fp1 fp2) (D1 : Draws prog w A i1 fp1 n P1 St1) (D2 : Draws prog w A i2 fp2 n P2 St2) (hz : IsZs s.heap z TI TO .none) (hTI : IsTupOf2 s.heap TI (.ref i1) (.ref i2)) (hTO : IsTupOf2 s.heap TO a1 a2)
    (st1 : St1 i s.heap) (st2 : St2 i s.heap) (hlt : i < n)
    (hQ : ∀ x1 x2 h' tk, P1 i x1 → P2 i x2 → IsZs h' z TI TO (rawInt s.heap.objs.size) → IsTupOf2 h' TO x1 x2 → St1 (i + 1) h' → St2 (i + 1) h' → IsTupOf2 h' s.heap.objs.size x1 x2 →
      (∀ c o, c ≠ z → c ≠ TO → c ≠ i1 → c ≠ i2 → s.heap.get? c = some o → h'.get? c = some o) → Q (.ref s.heap.objs.size) { s with heap := h', toks := tk }) :
    wpAny (model prog w) A (Builtin.«zip.__next__» ⟨[.ref z], []⟩) (fun fin s' => ∃ v, fin = .done (.ret v) ∧ Q v s') E s := by
  obtain ⟨hp, g, d, tk0, os⟩ := s
  show wpAny _ _ (field (.ref z) 2 >>= _) _ _ _
  refine wpAny_bind (wpAny_field hz rfl (x := .bool true) rfl ?_)
  show wpAny _ _ (field (.ref z) 3 >>= _) _ _ _
  refine wpAny_bind (wpAny_field hz rfl (x := .ref TI) rfl (wpAny_bind (wpAny_seqItems hTI rfl ?_)))
  show wpAny _ _ (Builtin.SmallTypes.ownedTupleIsFree (.ref z) >>= _) _ _ _
  refine wpAny_bind ?_
  unfold Builtin.SmallTypes.ownedTupleIsFree
  refine wpAny_bind (wpAny_field hz rfl (x := .none) rfl (wpAny_pure ?_))
  simp only [if_true]
  refine wpAny_bind (wpAny_rule (wpAny_bind (wpAny_field hz rfl (x := .ref TO) rfl (wpAny_bind (wpAny_setField_rec hz (by simp) fun g0 hz0 hs0 => ?_)))))
  replace hz0 : IsZs g0 z TI TO .ellipsis := hz0
  replace hs0 : Heap.SameBut z hp g0 := hs0
  refine wpAny_bind ?_
  simp only [List.zipIdx_cons, List.zipIdx_nil, List.forIn_cons, List.forIn_nil]
  refine wpAny_bind (wpAny_bind (wpAny_onRaise ?_))
  show wpAny _ _ (Builtin.SmallTypes.nextOrEnd (.ref i1)) _ _ ⟨g0, g, d, tk0, os⟩
  refine nx_item (D1.item i _ _ _ hlt (D1.over st1 hs0 S.zf1) fun x1 p1 tk1 hx1 sn1 hp1 => ?_)
  replace hp1 : Heap.SameBut i1 g0 p1 := hp1
  have hU1 : IsTupOf2 p1 TO a1 a2 := hp1.extBut _ _ S.Ti1 (hs0.extBut _ _ S.TOz hTO)
  refine wpAny_bind (wpAny_seqItems (s := ⟨p1, g, d, tk1, os⟩) hU1 rfl (wpAny_bind (updateSeq_IsTupOf2 (s := ⟨p1, g, d, tk1, os⟩) hU1 fun g1 hT1 hs1 => ?_)))
  replace hT1 : IsTupOf2 g1 TO x1 a2 := hT1
  replace hs1 : Heap.SameBut TO p1 g1 := hs1
  refine wpAny_bind (wpAny_letGo (wpAny_pure (wpAny_bind (wpAny_bind (wpAny_onRaise ?_)))))
  show wpAny _ _ (Builtin.SmallTypes.nextOrEnd (.ref i2)) _ _ ⟨g1, g, d, tk1, os⟩
  refine nx_item (D2.item i _ _ _ hlt (D2.over (D2.over (D2.over st2 hs0 S.zf2) hp1 S.sep1_2) hs1 S.Tf2) fun x2 p2 tk2 hx2 sn2 hp2 => ?_)
  replace hp2 : Heap.SameBut i2 g1 p2 := hp2
  have hU2 : IsTupOf2 p2 TO x1 a2 := hp2.extBut _ _ S.Ti2 hT1
  refine wpAny_bind (wpAny_seqItems (s := ⟨p2, g, d, tk2, os⟩) hU2 rfl (wpAny_bind (updateSeq_IsTupOf2 (s := ⟨p2, g, d, tk2, os⟩) hU2 fun g2 hT2 hs2 => ?_)))
  replace hT2 : IsTupOf2 g2 TO x1 x2 := hT2
  replace hs2 : Heap.SameBut TO p2 g2 := hs2
  refine wpAny_bind (wpAny_letGo (wpAny_pure (wpAny_pure (wpAny_bind (wpAny_seqItems (s := ⟨g2, g, d, tk2, os⟩) hT2 rfl (wpAny_bind (wpAny_newTuple ?_)))))))
  have hsz : g2.objs.size = hp.objs.size := by rw [hs2.1, hp2.1, hs1.1, hp1.1, hs0.1]
  have hzz : IsZs g2 z TI TO .ellipsis := hs2.extBut _ _ S.TOz.symm (hp2.extBut _ _ S.zi2 (hs1.extBut _ _ S.TOz.symm (hp1.extBut _ _ S.zi1 hz0)))
  have hkk : ∀ c o, c ≠ z → c ≠ TO → c ≠ i1 → c ≠ i2 → hp.get? c = some o → g2.get? c = some o := fun c o cz cT c1 c2 e => hs2.extBut _ _ cT (hp2.extBut _ _ c2 (hs1.extBut _ _ cT (hp1.extBut _ _ c1 (hs0.extBut _ _ cz e))))
  have hj1 : St1 (i + 1) g2 := D1.over (D1.over (D1.over sn1 hs1 S.Tf1) hp2 S.sep2_1) hs2 S.Tf1
  have hj2 : St2 (i + 1) g2 := D2.over sn2 hs2 S.Tf2
  have lz : z < g2.objs.size := Heap.lt_size hzz
  show wpAny _ _ (Builtin.SmallTypes.ownedTupleHandOut (.ref z) (.ref g2.objs.size) >>= _) _ _ ⟨g2.push { cls := .type "tuple", data := .seq #[x1, x2] }, g, d, tk2, os⟩
  refine wpAny_bind ?_
  unfold Builtin.SmallTypes.ownedTupleHandOut
  have z6 : IsZs (g2.push { cls := .type "tuple", data := .seq #[x1, x2] }) z TI TO .ellipsis := Heap.get?_push_of_some _ hzz
  refine wpAny_bind (wpAny_setField_rec z6 (by simp) fun h7 z7 s7 => ?_)
  replace z7 : IsZs h7 z TI TO (rawInt g2.objs.size) := z7
  refine wpAny_setField_rec z7 (by simp) fun h8 z8 s8 => ?_
  replace z8 : IsZs h8 z TI TO (rawInt g2.objs.size) := z8
  replace s7 : Heap.SameBut z (g2.push { cls := .type "tuple", data := .seq #[x1, x2] }) h7 := s7
  replace s8 : Heap.SameBut z h7 h8 := s8
  have up : ∀ c o, c ≠ z → g2.get? c = some o → h8.get? c = some o := fun c o c1 e => s8.extBut _ _ c1 (s7.extBut _ _ c1 (Heap.get?_push_of_some _ e))
  have T8 : IsTupOf2 h8 g2.objs.size x1 x2 := s8.extBut _ _ (Nat.ne_of_gt lz) (s7.extBut _ _ (Nat.ne_of_gt lz) (Heap.get?_push_size _ rfl))
  rw [hsz] at z8 T8
  refine wpAny_pure ⟨_, rfl, ?_⟩
  show Q (.ref g2.objs.size) ⟨h8, g, d, tk2, os⟩
  rw [hsz]
  exact hQ x1 x2 h8 tk2 hx1 hx2 z8 (up _ _ S.TOz hT2) (D1.frame _ _ _ hj1 fun b hb o e => up b o (fun q => S.zf1 (q ▸ hb)) e) (D2.frame _ _ _ hj2 fun b hb o e => up b o (fun q => S.zf2 (q ▸ hb)) e) T8 fun c o cz cT c1 c2 e => up c o cz (hkk c o cz cT c1 c2 e)
set_option maxHeartbeats 2000000 in
theorem zs_end {Q : Fin → Shared → Prop} (hh : A.handled = none) (S : ZipSep2 z TI TO i1 i2 fp1 fp2) (D1 : Draws prog w A i1 fp1 n P1 St1) (D2 : Draws prog w A i2 fp2 n P2 St2) (hz : IsZs s.heap z TI TO .none) (hTI : IsTupOf2 s.heap TI (.ref i1) (.ref i2)) (hTO : IsTupOf2 s.heap TO a1 a2)
    (f1 : ∀ h h', (∀ b ∈ fp2, ∀ o, h.get? b = some o → h'.get? b = some o) → St2 n h → St2 n h') (st1 : St1 n s.heap) (st2 : St2 n s.heap)
    (hE : ∀ h' tk e, (∀ c o, c ≠ z → c ≠ TO → c ≠ i1 → c ≠ i2 → s.heap.get? c = some o → h'.get? c = some o) → (∃ o, h'.get? e = some o ∧ o.cls = .type "StopIteration") → E (.ref e) { s with heap := h', toks := tk }) :
    wpAny (model prog w) A (Builtin.«zip.__next__» ⟨[.ref z], []⟩) Q E s := by
  obtain ⟨hp, g, d, tk0, os⟩ := s
  show wpAny _ _ (field (.ref z) 2 >>= _) _ _ _
  refine wpAny_bind (wpAny_field hz rfl (x := .bool true) rfl ?_)
  show wpAny _ _ (field (.ref z) 3 >>= _) _ _ _
  refine wpAny_bind (wpAny_field hz rfl (x := .ref TI) rfl (wpAny_bind (wpAny_seqItems hTI rfl ?_)))
  show wpAny _ _ (Builtin.SmallTypes.ownedTupleIsFree (.ref z) >>= _) _ _ _
  refine wpAny_bind ?_
  unfold Builtin.SmallTypes.ownedTupleIsFree
  refine wpAny_bind (wpAny_field hz rfl (x := .none) rfl (wpAny_pure ?_))
  simp only [if_true]
  refine wpAny_bind (wpAny_rule (wpAny_bind (wpAny_field hz rfl (x := .ref TO) rfl (wpAny_bind (wpAny_setField_rec hz (by simp) fun g0 hz0 hs0 => ?_)))))
  replace hz0 : IsZs g0 z TI TO .ellipsis := hz0
  replace hs0 : Heap.SameBut z hp g0 := hs0
  refine wpAny_bind ?_
  simp only [List.zipIdx_cons, List.zipIdx_nil, List.forIn_cons, List.forIn_nil]
  refine wpAny_bind (wpAny_bind (wpAny_onRaise ?_))
  show wpAny _ _ (Builtin.SmallTypes.nextOrEnd (.ref i1)) _ _ ⟨g0, g, d, tk0, os⟩
  refine nx_end (D1.done ⟨g0, g, d, tk0, os⟩ _ _ (D1.over st1 hs0 S.zf1) fun q e hq he => ⟨⟨e, _, rfl, he.choose_spec⟩, ?_⟩)
  replace hq : Heap.ExtBut i1 g0 q := hq
  have hzq : IsZs q z TI TO .ellipsis := hq _ _ S.zi1 hz0
  refine wpAny_bind (wpAny_setField_rec (s := ⟨q, g, d, tk0, os⟩) hzq (by simp) fun q' hz' hq' => ?_)
  replace hq' : Heap.SameBut z q q' := hq'
  have k1 : ∀ c o, c ≠ z → c ≠ i1 → hp.get? c = some o → q'.get? c = some o := fun c o cz c1 x => hq'.extBut _ _ cz (hq _ _ c1 (hs0.extBut _ _ cz x))
  refine wpAny_bind (wpAny_bind ?_)
  simp only [List.drop_succ_cons, List.drop_zero, List.zipIdx_cons, List.zipIdx_nil, List.forIn_cons, List.forIn_nil]
  have s2 : St2 n q' := D2.over (f1 _ _ (fun b hb o e => hq b o (fun y => S.sep1_2 (y ▸ hb)) e) (D2.over st2 hs0 S.zf2)) hq' S.zf2
  refine wpAny_bind (wpAny_bind (nx_end (D2.done ⟨q', g, d, tk0, os⟩ _ _ s2 fun q2 e2 hq2 he2 => ⟨⟨e2, _, rfl, he2.choose_spec⟩, ?_⟩)))
  replace hq2 : Heap.ExtBut i2 q' q2 := hq2
  refine wpAny_pure (wpAny_pure (wpAny_bind (wpAny_rule ?_)))
  show wpAny _ _ (newExc (.type "StopIteration") [] >>= _) _ _ _
  refine wpAny_bind ?_
  simp only [newExc, newTuple]
  refine wpAny_bind (wpAny_newObj_type ?_ (by size_fits))
  refine wpAny_bind (m := firstArgMember _ _) (wpAny_of_eq (a := Value.none) (by first | rfl | (simp only [firstArgMember]; rfl)) ?_)
  refine wpAny_newObj_type ?_ (by size_fits)
  simp only [raiseNew]
  refine wpAny_bind (wpAny_handled ?_)
  rw [hh]
  refine wpAny_bind (wpAny_pure (wpAny_throw ?_))
  refine hE _ _ _ (fun c o cz cT c1 c2 x => ?_) ⟨_, Heap.get?_push_size _ rfl, rfl⟩
  exact Heap.get?_push_of_some _ (Heap.get?_push_of_some _ (hq2 _ _ c2 (k1 c o cz c1 x)))

theorem zs_pyNext_item {Q : Option Value → Shared → Prop} (S : ZipSep2 z TI TO i1 i2 fp1 fp2) (D1 : Draws prog w A.in1 i1 fp1 n P1 St1) (D2 : Draws prog w A.in1 i2 fp2 n P2 St2) (hz : IsZs s.heap z TI TO .none) (hTI : IsTupOf2 s.heap TI (.ref i1) (.ref i2)) (hTO : IsTupOf2 s.heap TO a1 a2)
    (st1 : St1 i s.heap) (st2 : St2 i s.heap) (hlt : i < n)
    (hQ : ∀ x1 x2 h' tk, P1 i x1 → P2 i x2 → IsZs h' z TI TO (rawInt s.heap.objs.size) → IsTupOf2 h' TO x1 x2 → St1 (i + 1) h' → St2 (i + 1) h' → IsTupOf2 h' s.heap.objs.size x1 x2 →
      (∀ c o, c ≠ z → c ≠ TO → c ≠ i1 → c ≠ i2 → s.heap.get? c = some o → h'.get? c = some o) → Q (some (.ref s.heap.objs.size)) { s with heap := h', toks := tk }) : wpAny (model prog w) A (pyNext (.ref z)) Q E s := by
  have hT : s.TypeIs (.ref z) "zip" := ⟨_, hz, rfl⟩
  unfold pyNext
  exact wpAny_bind (wpAny_attempt (wpAny_callSpecial?_slot (name := Str.ofString "__next__") hT F.slot_zip_next (wpAny_call_entry F.slot_zip_next hT F.entry_zip_next
    (zs_item S D1 D2 hz hTI hTO st1 st2 hlt fun x1 x2 h' tk y1 y2 b1 b2 d1 d2 b5 b7 => wpAny_pure (hQ x1 x2 h' tk y1 y2 b1 b2 d1 d2 b5 b7)) (F.args_zip_next_1 _))))
theorem zs_pyNext_end {Q : Option Value → Shared → Prop} (hh : A.handled = none) (S : ZipSep2 z TI TO i1 i2 fp1 fp2) (D1 : Draws prog w A.in1 i1 fp1 n P1 St1) (D2 : Draws prog w A.in1 i2 fp2 n P2 St2) (hz : IsZs s.heap z TI TO .none) (hTI : IsTupOf2 s.heap TI (.ref i1) (.ref i2)) (hTO : IsTupOf2 s.heap TO a1 a2)
    (f1 : ∀ h h', (∀ b ∈ fp2, ∀ o, h.get? b = some o → h'.get? b = some o) → St2 n h → St2 n h') (st1 : St1 n s.heap) (st2 : St2 n s.heap)
    (hQ : ∀ h' tk, (∀ c o, c ≠ z → c ≠ TO → c ≠ i1 → c ≠ i2 → s.heap.get? c = some o → h'.get? c = some o) → Q none { s with heap := h', toks := tk }) : wpAny (model prog w) A (pyNext (.ref z)) Q E s := by
  have hT : s.TypeIs (.ref z) "zip" := ⟨_, hz, rfl⟩
  unfold pyNext
  refine wpAny_bind (wpAny_attempt (wpAny_callSpecial?_slot (name := Str.ofString "__next__") hT F.slot_zip_next (wpAny_call_entry F.slot_zip_next hT F.entry_zip_next (zs_end (A := A.in1) hh S D1 D2 hz hTI hTO f1 st1 st2 fun h' tk e hk he => ?_) (F.args_zip_next_1 _))))
  obtain ⟨o, ho, hc⟩ := he
  exact wpAny_bind (wpAny_isInstance (T := "StopIteration") (b := true) ⟨o, ho, hc⟩ isSubtype_stop (wpAny_pure (hQ _ _ hk)))
theorem zs_go {elts : List Expr} {x1 : Nat} {pos : Pos} {T : Addr} {Q : Unit → Shared → Prop} (hz : IsZs s.heap z TI TO (rawInt T)) (hQ : ∀ h', IsZs h' z TI TO .none → Heap.SameBut z s.heap h' → Q () { s with heap := h' }) :
    wpAny (model prog w) A (letOwnedTupleGo (.Tuple elts x1 pos) (.ref z) (.ref T)) Q E s := by
  unfold letOwnedTupleGo
  refine wpAny_bind (wpAny_load hz ?_)
  show wpAny _ _ (if (["enumerate", "zip", "dict_itemiterator", "dict_reverseitemiterator", "odict_iterator", "itertools.zip_longest", "itertools.pairwise"].contains "zip" && (#[rawInt T, .bool false, .bool true, .ref TI, .ref TO] : Array Value)[0]? == some (rawInt T)) = true then _ else _) Q E s
  rw [if_pos (by simp)]
  refine wpAny_bind (wpAny_rule ?_)
  show wpAny _ _ (setField (.ref z) 0 .none) Q E s
  exact wpAny_setField_rec hz (by simp) fun h' hz' hs' => hQ h' hz' hs'
theorem zs_pyIter {f0 : Value} {Q : Value → Shared → Prop} (hz : IsZs s.heap z TI TO f0) (h : Q (.ref z) s) : wpAny (model prog w) A (pyIter (.ref z)) Q E s := by
  have hT : s.TypeIs (.ref z) "zip" := ⟨_, hz, rfl⟩
  refine wpAny_pyIter_slot hT F.slot_zip_iter (wpAny_call_entry F.slot_zip_iter hT F.entry_zip_iter ?_ (F.args_zip_iter_1 _))
  show wpAny _ _ (ret (.ref z)) _ _ s
  exact wpAny_pure ⟨_, rfl, "zip", _, hT, F.slot_zip_next.lookup, h⟩
end

/-! ### made -/
abbrev zsH (h : Heap) (o1 o2 : Obj) : Heap := (gzO2 h o1 o2).push { cls := .type "zip", data := .fields #[.none, .bool false, .bool true, .ref ((h.push o1).push o2).objs.size, .ref (gzT2 h o1 o2).objs.size] }
theorem typeCall_zs (a b : Value) : checkTypeCall "zip" ⟨[a, b], [(Str.ofString "strict", .bool true)]⟩ = pure () := by kernel_rfl
theorem newCall_zs (a b : Value) : checkBuiltinCall "zip.__new__" ⟨[.type "zip", a, b], [(Str.ofString "strict", .bool true)]⟩ = pure () := by kernel_rfl
theorem args_zs (obj a b : Value) : argsOk "object.__init__" ⟨[obj, a, b], [(Str.ofString "strict", .bool true)]⟩ := by unfold argsOk; kernel_rfl
set_option maxHeartbeats 2000000 in
theorem meets_zs {v1 v2 : Value} {o1 o2 : Obj} {G1 G2 : Heap → Prop} (B1 : Begins v1 o1 G1) (B2 : Begins v2 o2 G2) :
    Meets (Builtin.«zip.__new__» ⟨[.type "zip", v1, v2], [(Str.ofString "strict", .bool true)]⟩) (fun _ R s => (G1 s.heap ∧ G2 s.heap) ∧ R (.ok (.ret (.ref (gzO2 s.heap o1 o2).objs.size))) { s with heap := zsH s.heap o1 o2 }) :=
  .of_wp fun prog w A R s h => by
    obtain ⟨hp, g, d, tk, os⟩ := s
    obtain ⟨⟨h1, h2⟩, h⟩ := h
    have hsub := sub_zip
    have q1 : ∀ {A' : Around} {E : Value → Shared → Prop} {Q : Value → Shared → Prop}, Q (.ref hp.objs.size) ⟨(hp.push o1), g, d, tk, os⟩ → wpAny (model prog w) A' (pyIter v1) Q E ⟨hp, g, d, tk, os⟩ :=
      fun q => B1.iter prog w _ _ ⟨hp, g, d, tk, os⟩ _ h1 q
    have q2 : ∀ {A' : Around} {E : Value → Shared → Prop} {Q : Value → Shared → Prop}, Q (.ref (hp.push o1).objs.size) ⟨((hp.push o1).push o2), g, d, tk, os⟩ → wpAny (model prog w) A' (pyIter v2) Q E ⟨(hp.push o1), g, d, tk, os⟩ :=
      fun q => B2.iter prog w _ _ ⟨(hp.push o1), g, d, tk, os⟩ _ (B2.keeps _ _ h2 fun b o' e => (Heap.get?_push_of_some _ e)) q
    have e1 : (Str.ofString "strict" != ("strict" : Str)) = false := by decide +kernel
    wp_walk using q1, q2
    exact ⟨_, rfl, h⟩
theorem call_zs {prog : Program} {w : World} {A : Around} {E : Value → Shared → Prop} {s : Shared} {v1 v2 : Value} {o1 o2 : Obj} {G1 G2 : Heap → Prop} {Q : Value → Shared → Prop} (B1 : Begins v1 o1 G1) (B2 : Begins v2 o2 G2) (h1 : G1 s.heap) (h2 : G2 s.heap)
    (h : ∀ h', IsZs h' (s.heap.objs.size + 4) (s.heap.objs.size + 2) (s.heap.objs.size + 3) .none → IsTupOf2 h' (s.heap.objs.size + 2) (.ref s.heap.objs.size) (.ref (s.heap.objs.size + 1)) →
      IsTupOf2 h' (s.heap.objs.size + 3) .none .none → h'.get? s.heap.objs.size = some o1 → h'.get? (s.heap.objs.size + 1) = some o2 → (∀ c o, s.heap.get? c = some o → h'.get? c = some o) → Q (.ref (s.heap.objs.size + 4)) { s with heap := h' }) :
    wpAny (model prog w) A (call (.type "zip") [v1, v2] [(Str.ofString "strict", .bool true)]) Q E s := by
  refine callType_newKw F.called_zip (by decide) (typeCall_zs _ _) (newCall_zs _ _) (fun obj => args_zs obj _ _) F.entry_zip_new (meets_zs B1 B2) ⟨⟨h1, h2⟩, ?_⟩
  have z1 : (s.heap.push o1).objs.size = s.heap.objs.size + 1 := by rw [Heap.size_push]
  have z2 : ((s.heap.push o1).push o2).objs.size = s.heap.objs.size + 2 := by rw [Heap.size_push, z1]
  have zT : (gzT2 s.heap o1 o2).objs.size = s.heap.objs.size + 3 := by rw [Heap.size_push, z2]
  have zO : (gzO2 s.heap o1 o2).objs.size = s.heap.objs.size + 4 := by rw [Heap.size_push, zT]
  have gZ : (zsH s.heap o1 o2).get? (gzO2 s.heap o1 o2).objs.size = some { cls := .type "zip", data := .fields #[.none, .bool false, .bool true, .ref ((s.heap.push o1).push o2).objs.size, .ref (gzT2 s.heap o1 o2).objs.size] } := Heap.get?_push_size _ rfl
  have gO : (zsH s.heap o1 o2).get? (gzT2 s.heap o1 o2).objs.size = some { cls := .type "tuple", data := .seq #[.none, .none] } := Heap.get?_push_of_some _ (Heap.get?_push_size _ rfl)
  have gT : (zsH s.heap o1 o2).get? ((s.heap.push o1).push o2).objs.size = some { cls := .type "tuple", data := .seq #[.ref s.heap.objs.size, .ref (s.heap.push o1).objs.size] } := Heap.get?_push_of_some _ (Heap.get?_push_of_some _ (Heap.get?_push_size _ rfl))
  have g1 : (zsH s.heap o1 o2).get? s.heap.objs.size = some o1 := Heap.get?_push_of_some _ (Heap.get?_push_of_some _ (Heap.get?_push_of_some _ (Heap.get?_push_of_some _ (Heap.get?_push_size _ B1.free))))
  have g2 : (zsH s.heap o1 o2).get? (s.heap.push o1).objs.size = some o2 := Heap.get?_push_of_some _ (Heap.get?_push_of_some _ (Heap.get?_push_of_some _ (Heap.get?_push_size _ B2.free)))
  rw [zO, zT, z2] at gZ
  rw [zT] at gO
  rw [z2, z1] at gT
  rw [z1] at g2
  show _ ∧ _
  rw [zO]
  exact ⟨⟨_, gZ, rfl⟩, h _ gZ gT gO g1 g2 fun c o e => Heap.get?_push_of_some _ (Heap.get?_push_of_some _ (Heap.get?_push_of_some _ (Heap.get?_push_of_some _ (Heap.get?_push_of_some _ e))))⟩

/-! ### its turns -/
def ItK : Bool → Heap → Addr → Addr → Nat → Prop
  | true, h, it, a, i => h.IsTupleIter it a i
  | false, h, it, a, i => h.IsListIter it a i
def SeqK : Bool → Heap → Addr → Array Value → Prop
  | true, h, a, its => h.IsTuple a its
  | false, h, a, its => h.IsList a its
theorem drawsB {prog : Program} {w : World} {A : Around} (hh : A.handled = none) (t : Bool) (it a : Addr) (hne : a ≠ it) (its : Array Value) : Draws prog w A it [it, a] its.size (fun i v => its[i]? = some v) (fun i h => ItK t h it a i ∧ SeqK t h a its) := by
  cases t with
  | true => exact Draws.tuple hh it a hne its
  | false => exact Draws.list hh it a hne its
theorem itk_some {t : Bool} {h : Heap} {it a : Addr} {i : Nat} (x : ItK t h it a i) : ∃ o, h.get? it = some o ∧ ∀ v, o.data ≠ .cell v := by
  cases t with
  | true => obtain ⟨o, e, _, d⟩ := x; exact ⟨o, e, fun v q => by rw [d] at q; cases q⟩
  | false => obtain ⟨o, e, _, d⟩ := x; exact ⟨o, e, fun v q => by rw [d] at q; cases q⟩
theorem itk_move {t : Bool} {h h' : Heap} {it a : Addr} {i : Nat} (x : ItK t h it a i) (e : ∀ o, h.get? it = some o → h'.get? it = some o) : ItK t h' it a i := by
  cases t with
  | true => exact Heap.IsTupleIter.at x e
  | false => exact Heap.IsListIter.at x e
theorem seqB {X : Cx} {pins : List (Addr × Obj)} {σ : L2.St} {H : Hp} {s : Shared} {t : Bool} {a : Addr} {xs : List V} (I : Inv X pins σ H s) (h : SqB X.K t H a xs) : ∃ its : List Value, Vals xs its ∧ SeqK t s.heap a its.toArray ∧ a < s.heap.objs.size := by
  cases t with
  | true => obtain ⟨its, rv, p, _⟩ := I.tuple h; obtain ⟨o, e, _⟩ := id p; exact ⟨its, rv, p, Heap.lt_size e⟩
  | false => obtain ⟨its, rv, p, _⟩ := I.list h; exact ⟨its, rv, p.isList, p.lt⟩
theorem injB {X : Cx} {pins : List (Addr × Obj)} {σ : L2.St} {H : Hp} {s : Shared} {t : Bool} {a : Addr} {xs ys : List V} (I : Inv X pins σ H s) (h : SqB X.K t H a xs) (g : SqB X.K t H a ys) : xs = ys := by
  cases t with
  | true => exact I.tuple_inj h g
  | false => exact I.list_inj h g
def ItzS (K : PySem.W.Frag) (t u : Bool) (a b : Addr) : It :=
  ⟨fun i H => ∃ (xs ys : List V) (x y : V), SqB K t H a xs ∧ SqB K u H b ys ∧ xs.length = ys.length ∧ xs[i]? = some x ∧ ys[i]? = some y,
    fun i H v H' => ∃ T x y, v = .ref T ∧ H T = none ∧ H' = L2.upd H T (.tup [x, y]) ∧ (∀ xs, SqB K t H a xs → xs[i]? = some x) ∧ ∀ ys, SqB K u H b ys → ys[i]? = some y,
    fun i H => ∃ xs ys : List V, SqB K t H a xs ∧ SqB K u H b ys ∧ xs.length = i ∧ ys.length = i⟩
theorem turn_zs {P : Program} {w : World} {K : PySem.W.Frag} {elts : List Expr} {kk : Nat} {tpos : Pos} {t u : Bool} {a b z TI TO i1 i2 : Addr} (D : ZipSep2 z TI TO i1 i2 [i1, a] [i2, b]) (na : a ≠ i1) (nb : b ≠ i2) :
    Turn P w K (.Tuple elts kk tpos) (ItzS K t u a b) [z, TI, TO, i1, i2] z (fun i h => IsZs h z TI TO .none ∧ IsTupOf2 h TI (.ref i1) (.ref i2) ∧ (∃ x y, IsTupOf2 h TO x y) ∧ ItK t h i1 a i ∧ ItK u h i2 b i) where
  mem := by simp
  obj := fun i h st c hc => by
    obtain ⟨hz, hTI, ⟨x, y, hTO⟩, j1, j2⟩ := st
    rcases (by simpa using hc : c = z ∨ c = TI ∨ c = TO ∨ c = i1 ∨ c = i2) with rfl | rfl | rfl | rfl | rfl
    · exact ⟨_, hz, fun v q => nomatch q⟩
    · exact ⟨_, hTI, fun v q => nomatch q⟩
    · exact ⟨_, hTO, fun v q => nomatch q⟩
    · exact itk_some j1
    · exact itk_some j2
  keep := fun i h h' st k => by
    obtain ⟨hz, hTI, ⟨x, y, hTO⟩, j1, j2⟩ := st
    exact ⟨k z (by simp) _ hz, k TI (by simp) _ hTI, ⟨x, y, k TO (by simp) _ hTO⟩, itk_move j1 fun o q => k i1 (by simp) o q, itk_move j2 fun o q => k i2 (by simp) o q⟩
  item := by
    intro X hP hw hK hc i pins s σ H E I hf st hg
    subst hP hw hK
    obtain ⟨hz, hTI, ⟨x0, y0, hTO⟩, j1, j2⟩ := st
    obtain ⟨xs, ys, x, y, hqx, hqy, hl, hx, hy⟩ := hg
    obtain ⟨its, rv, p, la⟩ := seqB I hqx
    obtain ⟨its2, rv2, p2, lb⟩ := seqB I hqy
    obtain ⟨v1, hv1, ru1⟩ := rv.get hx
    obtain ⟨v2, hv2, ru2⟩ := rv2.get hy
    have hh : X.A.in1.handled = none := I.ok.hd hc
    have zl : z < s.heap.objs.size := Heap.lt_size hz
    have sz : its2.toArray.size = its.toArray.size := by simp only [List.size_toArray]; rw [← rv.length, ← rv2.length, hl]
    have D2 := drawsB (prog := X.prog) (w := X.w) hh u i2 b nb its2.toArray
    rw [sz] at D2
    refine zs_pyNext_item D (drawsB hh t i1 a na its.toArray) D2 hz hTI hTO ⟨j1, p⟩ ⟨j2, p2⟩ (by have := (List.getElem?_eq_some_iff.mp hv1).1; simpa using this) fun u1 u2 h' tk e1 e2 z' hTO' n1 n2 hT hk => ?_
    have : u1 = v1 := by
      have q : its[i]? = some u1 := by simpa using e1
      rw [hv1] at q
      exact (Option.some.inj q).symm
    subst this
    have : u2 = v2 := by
      have q : its2[i]? = some u2 := by simpa using e2
      rw [hv2] at q
      exact (Option.some.inj q).symm
    subst this
    refine ⟨_, rfl, zs_go (s := { s with heap := h', toks := tk }) z' fun h'' z'' sb => ?_⟩
    have hT2 : h''.get? s.heap.objs.size = some { cls := .type "tuple", data := .seq #[u1, u2] } := (sb.2 _ (Nat.ne_of_gt zl)).trans hT
    have new : ObjOk X.prog X.w (L2.upd H s.heap.objs.size (.tup [x, y])) h'' s.heap.objs.size (.tup [x, y]) := ⟨by show 2 ≤ sizeLine; decide, [u1, u2], .cons ru1 (.cons ru2 .nil), ⟨_, hT2, rfl, _, rfl⟩⟩
    have I1 : Inv X pins σ (L2.upd H s.heap.objs.size (.tup [x, y])) { s with heap := h'', toks := tk } :=
      I.turnedNew (ch := [z, TI, TO, i1, i2]) (fun c o hb q => (sb.2 c (fun q' => hb (by simp [q']))).trans (hk c o (fun q' => hb (by simp [q'])) (fun q' => hb (by simp [q'])) (fun q' => hb (by simp [q'])) (fun q' => hb (by simp [q'])) q)) hf (Nat.le_refl _) new
    have up : ∀ c, c ≠ z → ∀ o, h'.get? c = some o → h''.get? c = some o := fun c hcz o q => (sb.2 c hcz).trans q
    refine ⟨.ref s.heap.objs.size, _, I1, rfl, ⟨_, x, y, rfl, I.hok.fresh (Nat.le_refl _), rfl, fun l hl => by rw [injB I hl hqx]; exact hx, fun l hl => by rw [injB I hl hqy]; exact hy⟩, ⟨z'', ?_, ⟨u1, u2, up _ D.TOz _ hTO'⟩, itk_move n1.1 (up _ D.zi1.symm), itk_move n2.1 (up _ D.zi2.symm)⟩, fun c hcm => ?_⟩
    · exact up _ D.TIz _ (hk _ _ D.TIz D.TITO D.TIi1 D.TIi2 hTI)
    · have lt : c < s.heap.objs.size := by
        rcases (by simpa using hcm : c = z ∨ c = TI ∨ c = TO ∨ c = i1 ∨ c = i2) with rfl | rfl | rfl | rfl | rfl
        · exact zl
        · exact Heap.lt_size hTI
        · exact Heap.lt_size hTO
        · obtain ⟨_, e, _⟩ := itk_some j1; exact Heap.lt_size e
        · obtain ⟨_, e, _⟩ := itk_some j2; exact Heap.lt_size e
      rw [upd_ne (Nat.ne_of_lt lt)]
      exact (hf c hcm).1
  done := by
    intro X hP hw hK hc i pins s σ H E I hf st hg
    subst hP hw hK
    obtain ⟨hz, hTI, ⟨x0, y0, hTO⟩, j1, j2⟩ := st
    obtain ⟨xs, ys, hqx, hqy, e1, e2⟩ := hg
    obtain ⟨its, rv, p, la⟩ := seqB I hqx
    obtain ⟨its2, rv2, p2, lb⟩ := seqB I hqy
    have hh : X.A.handled = none := I.ok.hd hc
    have s1 : i = its.toArray.size := by simp only [List.size_toArray]; rw [← rv.length, e1]
    have s2 : its2.toArray.size = its.toArray.size := by simp only [List.size_toArray]; rw [← rv.length, ← rv2.length, e1, e2]
    have D2 := drawsB (prog := X.prog) (w := X.w) (A := X.A.in1) hh u i2 b nb its2.toArray
    rw [s2] at D2
    subst s1
    refine zs_pyNext_end hh D (drawsB (A := X.A.in1) hh t i1 a na its.toArray) D2 hz hTI hTO (fun g g' k x => D2.frame _ _ _ x k) ⟨j1, p⟩ ⟨j2, p2⟩ fun h' tk hk => ⟨rfl, I.turnedL (t' := tk) (ch := [z, TI, TO, i1, i2]) (fun c o hb q =>
      hk c o (fun q' => hb (by simp [q'])) (fun q' => hb (by simp [q'])) (fun q' => hb (by simp [q'])) (fun q' => hb (by simp [q'])) q) hf⟩
  self := fun A i s Q E st h => zs_pyIter st.1 h
theorem begB (t : Bool) (a : Addr) (its : Array Value) : ∃ o, Begins (.ref a) o (fun h => SeqK t h a its) ∧ ∀ h it, h.get? it = some o → ItK t h it a 0 := by
  cases t with
  | true => exact ⟨_, begins_tuple a its, fun h it e => ⟨_, e, rfl, rfl⟩⟩
  | false => exact ⟨_, begins_list a its, fun h it e => ⟨_, e, rfl, rfl⟩⟩
def iZs (K : PySem.W.Frag) (ta : TA) : TI := fun σ H R => ta σ H fun vs H1 => ∃ a b t u xs ys, vs = [.ref a, .ref b] ∧ SqB K t H1 a xs ∧ SqB K u H1 b ys ∧ R (ItzS K t u a b) H1
theorem callWith_kwT {M : Model} {A : Around} {E : Value → Shared → Prop} {s : Shared} {env : Env} {pos : Pos} {T : String} {e : Expr} {rest : List Expr} {kws : List Keyword} {Q : Value → Shared → Prop}
    (h : wpAny M A (spliced (backTo pos (starEach (e :: rest) env))) (fun vs s1 => wpAny M A (evalAll ((backToKw pos (keywordEach kws env)).map (·.2))) (fun kvs s2 => wpAny M A (call (.type T) vs (((backToKw pos (keywordEach kws env)).filterMap (·.1)).zip kvs)) Q E s2) E s1) E s)
    (he : backTo pos (starEach (e :: rest) env) = (false, eval e env) :: backTo pos (starEach rest env)) (hplain : (backTo pos (starEach (e :: rest) env)).any (·.1) = false)
    (hall : (backToKw pos (keywordEach kws env)).all (·.1.isSome) = true) (hkw : (backToKw pos (keywordEach kws env)).any (·.1.isNone) = false) :
    wpAny M A (callWith pos (.type T) [] (backTo pos (starEach (e :: rest) env)) (backToKw pos (keywordEach kws env))) Q E s := by
  have ev : wpAny M A (evalArgs (.type T) true (backTo pos (starEach (e :: rest) env)) (backToKw pos (keywordEach kws env))) (fun a s1 => wpAny M A (call (.type T) ([] ++ a.pos) a.kw) Q E s1) E s := by
    rw [he] at h ⊢
    exact evalArgs_kwB hall h
  unfold callWith
  refine wpAny_bind (wpAny_holding (wpAny_mono ev (fun a s1 h1 => wpAny_bind (wpAny_standAt ?_)) fun _ _ x => x))
  simp only [hplain, hkw, Bool.or_false]
  exact wpAny_bind (wpAny_pure (wpAny_bind (wpAny_mono h1 (fun r s2 hr => wpAny_bind (wpAny_holding (wpAny_point (wpAny_pure hr)))) fun _ _ x => x)))
theorem pi_zs {X : Cx} {e e2 : Expr} {ta : TA} {p pos tpos kp cp : Pos} {elts : List Expr} {kk cj : Nat} (hg : Gl X "zip") (hm : X.mg "zip" = none) (ha : PA X [e, e2] ta) (hs1 : starB e = false) (hs2 : starB e2 = false) :
    PI X (.Tuple elts kk tpos) (.Call (.Name "zip" p) [e, e2] [⟨some "strict", .Constant (.bool true) cj cp, kp⟩] pos) (iZs X.K ta) := by
  have e1 : starEach [e, e2] X.env = (false, eval e X.env) :: starEach [e2] X.env := notStar hs1 _ _
  have e3 : starEach [e2] X.env = [(false, eval e2 X.env)] := notStar hs2 _ _
  refine ⟨fun pins s σ H R I h => ?_⟩
  refine wpAny_Call_Name_kw (ld_blt I hg hm PyProof.Rows.boot_zip (callWith_kwT (thn (ha.run pos pins s σ H _ I h) fun us s1 ⟨vs, H1, I1, r1, a, b, t, u, xs, ys, ex, hqx, hqy, q⟩ => ?_) (by rw [e1, e3]; rfl) (by rw [e1, e3]; rfl) rfl rfl))
  subst ex
  cases r1 with
  | cons r rr =>
    cases rr with
    | cons r' rr =>
      cases rr
      cases r
      cases r'
      have hk : PK X [⟨some "strict", .Constant (.bool true) cj cp, kp⟩] (tCons (tC (.bl true)) tNil) := pk_cons pe_bl pk_nil
      refine thn (hk.run pos pins s1 σ H1 (fun zs H2 => zs = [.bl true] ∧ H2 = H1) I1 ⟨rfl, rfl⟩) fun ws s2 ⟨zs, H2, I2, r2, e4, e5⟩ => ?_
      subst e4 e5
      obtain ⟨w1, rfl, e6⟩ := vals1 r2
      obtain rfl : w1 = Value.bool true := e6
      show wpAny _ _ (call (.type "zip") [.ref a, .ref b] [(Str.ofString "strict", .bool true)]) _ _ _
      obtain ⟨its, rv, p1, la⟩ := seqB I2 hqx
      obtain ⟨its2, rv2, p2, lb⟩ := seqB I2 hqy
      obtain ⟨o1, B1, k1⟩ := begB t a its.toArray
      obtain ⟨o2, B2, k2⟩ := begB u b its2.toArray
      have nw : ∀ c, c ∈ [s2.heap.objs.size + 4, s2.heap.objs.size + 2, s2.heap.objs.size + 3, s2.heap.objs.size, s2.heap.objs.size + 1] → FpOk X pins H2 c := fun c hcm => by
        have hle : s2.heap.objs.size ≤ c := by
          rcases (by simpa using hcm : c = s2.heap.objs.size + 4 ∨ c = s2.heap.objs.size + 2 ∨ c = s2.heap.objs.size + 3 ∨ c = s2.heap.objs.size ∨ c = s2.heap.objs.size + 1) with z | z | z | z | z
          · rw [z]; exact Nat.le_add_right _ _
          · rw [z]; exact Nat.le_add_right _ _
          · rw [z]; exact Nat.le_add_right _ _
          · rw [z]; exact Nat.le_refl _
          · rw [z]; exact Nat.le_add_right _ _
        exact I2.fpOk hle (I2.hok.fresh hle)
      refine call_zs B1 B2 p1 p2 fun h' hz hTI hTO g1 g2 hk' => zs_pyIter hz ?_
      have sep : ZipSep2 (s2.heap.objs.size + 4) (s2.heap.objs.size + 2) (s2.heap.objs.size + 3) s2.heap.objs.size (s2.heap.objs.size + 1) [s2.heap.objs.size, a] [s2.heap.objs.size + 1, b] :=
        zip_sep2 (fp1 := [a]) (fp2 := [b]) (fun c hc => by simp at hc; subst hc; exact la) (fun c hc => by simp at hc; subst hc; exact lb)
      exact ⟨_, _, _, _, H2, rfl, I2.kept (t' := s2.toks) hk', turn_zs sep (Nat.ne_of_lt la) (Nat.ne_of_lt (Nat.lt_succ_of_lt lb)), ⟨hz, hTI, ⟨_, _, hTO⟩, k1 _ _ g1, k2 _ _ g2⟩, nw, q⟩
end Ev
end

section
set_option Elab.async false
set_option linter.all false
set_option maxRecDepth 100000
/-! Ev16: iterables served. -/
namespace Ev
open PySem PySem.Spec PyProof.Rows L2

abbrev PreI := (List D → List Out → Stt → Prop) → Stt → Prop
def TI' (K : PySem.W.Frag) (wp : PreI) : TI := fun σ H R => ∃ ρ st W P, Rel K ρ st W σ H ∧ wp P st ∧
  ∀ ds os st' ρ' W' H' xs J, P ds os st' → Step K ρ st W σ H ρ' st' W' σ H' → ROs K ρ' st'.env W' σ H' H os xs → Wk J (OuR K os xs) ds → R J H'
def SoundI (X : Cx) (S : SpecK) (it : Expr) (ii : II) : Prop := ∀ tg, tupI ii tg = true → PI X tg it (TI' X.K (wpI S ii))
theorem _root_.L2.PI.weak {X : Cx} {tg it : Expr} {t t' : TI} (h : PI X tg it t) (w : ∀ σ H R, t' σ H R → t σ H R) : PI X tg it t' := ⟨fun pins s σ H R I hw => h.run pins s σ H R I (w _ _ _ hw)⟩

section
variable {X : Cx} {tg : Expr}
/-- a list or a tuple -/
def iSeq (K : PySem.W.Frag) (tl : TE) : TI := fun σ H R => tl σ H fun x H1 => ∃ a t, x = .ref a ∧ (∃ xs, SqB K t H1 a xs) ∧ R (if t then Itt K a else Itl K a) H1
theorem pi_seq {l : Expr} {tl : TE} (hl : PE X l tl) : PI X tg l (iSeq X.K tl) := by
  refine ⟨fun pins s σ H R I h => ?_⟩
  refine thn (hl.run pins s σ H _ I h) fun v s1 ⟨x, H1, I1, r1, a, t, ex, ⟨xs, hq⟩, q⟩ => ?_
  subst ex
  cases r1
  have nw : ∀ b, b ∈ [s1.heap.objs.size] → FpOk X pins H1 b := fun b hb => by
    have z : b = s1.heap.objs.size := by simpa using hb
    subst z
    exact I1.fpOk (Nat.le_refl _) (I1.hok.fresh (Nat.le_refl _))
  cases t with
  | true =>
    obtain ⟨its, rv, p, hz⟩ := I1.tuple hq
    exact wpAny_pyIter_tuple (show s1.heap.IsTuple a its.toArray from p) ⟨_, [s1.heap.objs.size], _, _, H1, rfl, I1.kept (t' := s1.toks) fun b o e => Heap.get?_push_of_some _ e, turn_tuple a _, ⟨_, Heap.get?_push_size _ rfl, rfl, rfl⟩, nw, q⟩
  | false =>
    obtain ⟨its, rv, p, hz⟩ := I1.list hq
    exact wpAny_pyIter_list p.isList ⟨_, [s1.heap.objs.size], _, _, H1, rfl, I1.kept (t' := s1.toks) fun b o e => Heap.get?_push_of_some _ e, turn_list a _, ⟨_, Heap.get?_push_size _ rfl, rfl, rfl⟩, nw, q⟩
def iEn (K : PySem.W.Frag) (ta : TA) : TI := fun σ H R => ta σ H fun vs H1 => ∃ a t, vs = [.ref a] ∧ (∃ xs, SqB K t H1 a xs) ∧ R (if t then IteT K a else Ite K a) H1
theorem pi_en {e : Expr} {ta : TA} {p pos tpos : Pos} {elts : List Expr} {kk : Nat} (hg : Gl X "enumerate") (hm : X.mg "enumerate" = none) (ha : PA X [e] ta) (hs : starEach [e] X.env = [(false, eval e X.env)]) :
    PI X (.Tuple elts kk tpos) (.Call (.Name "enumerate" p) [e] [] pos) (iEn X.K ta) := by
  refine ⟨fun pins s σ H R I h => ?_⟩
  refine Call_ (ld_blt I hg hm boot_enumerate (PyProof.Rows.callWith_type1 (thn (ha.run pos pins s σ H _ I h) fun us s1 ⟨vs, H1, I1, r1, a, t, ex, ⟨xs, hq⟩, q⟩ => ?_) hs rfl))
  subst ex
  cases r1 with
  | cons r rr =>
    cases rr
    cases r
    have nw : ∀ b, b ∈ [s1.heap.objs.size + 1, s1.heap.objs.size] → FpOk X pins H1 b := fun b hb => by
      have hle : s1.heap.objs.size ≤ b := by
        rcases (by simpa using hb : b = s1.heap.objs.size + 1 ∨ b = s1.heap.objs.size) with z | z
        · rw [z]; exact Nat.le_add_right _ _
        · rw [z]; exact Nat.le_refl _
      exact I1.fpOk hle (I1.hok.fresh hle)
    cases t with
    | true =>
      obtain ⟨its, rv, p', hz⟩ := I1.tuple hq
      obtain ⟨oa, hoa, _⟩ := id p'
      have la : a < s1.heap.objs.size := Heap.lt_size hoa
      refine call_en (begins_tuple a its.toArray) (show s1.heap.IsTuple a its.toArray from p') fun h' he hit hk => wpAny_pyIter_enum he ?_
      exact ⟨_, _, _, _, H1, rfl, I1.kept (t' := s1.toks) hk, turn_enT a (s1.heap.objs.size + 1) s1.heap.objs.size, ⟨⟨.none, he⟩, ⟨_, hit, rfl, rfl⟩, Nat.succ_ne_self _, Nat.ne_of_lt la, Nat.ne_of_gt (Nat.lt_succ_of_lt la)⟩, nw, q⟩
    | false =>
      obtain ⟨its, rv, p', hz⟩ := I1.list hq
      refine call_en (begins_list a its.toArray) p'.isList fun h' he hit hk => wpAny_pyIter_enum he ?_
      exact ⟨_, _, _, _, H1, rfl, I1.kept (t' := s1.toks) hk, turn_enum a (s1.heap.objs.size + 1) s1.heap.objs.size, ⟨⟨.none, he⟩, ⟨_, hit, rfl, rfl⟩, Nat.succ_ne_self _⟩, nw, q⟩
end

section
variable {F : List String} {N : List Str} {S : SpecK} {X : Cx} {sc : Scope}
theorem tup_of {ii : II} {tg : Expr} (h : tupI ii tg = true) (hn : ∀ t, tupI ii t = match t with | .Tuple _ _ _ => true | _ => false) : ∃ es k p, tg = .Tuple es k p := by
  rw [hn] at h
  cases tg <;> first
    | exact ⟨_, _, _, rfl⟩
    | simp at h
theorem si_ex {e : IE} {v : Expr} (he : Sound X S v e) : SoundI X S v (.ex e) := fun tg _ => by
  refine (pi_seq he.pe).weak fun σ H Q h => ?_
  obtain ⟨ρ, st, W, P, r, w, k⟩ := h
  refine ⟨ρ, st, W, _, r, w, fun o st1 ρ1 W1 H1 x p1 s1 t1 => ?_⟩
  obtain ⟨ds, e1, q⟩ := p1
  obtain ⟨a, xs, rfl, hs, _⟩ := t1.sq s1.rel e1
  exact ⟨a, _, rfl, ⟨xs, hs⟩, k _ _ _ _ _ _ [.ref a] _ q s1 (.cons t1 .nil fun _ j o' x' h1 => by simp at h1) (wk_seq fun W H hr => hr 0 o (.ref a) ds rfl rfl e1)⟩
theorem si_rg1 {a : IE} {v : Expr} {p pos : Pos} (c : XOk F N S X sc) (hg : glB sc "range" = true) (ha : Sound X S v a) (hs : starB v = false) : SoundI X S (.Call (.Name "range" p) [v] [] pos) (.rg1 a) := fun tg _ => by
  refine (pi_range1 (c.glOk hg) (c.blt _ (by decide)) (pa_cons ha.pe pa_nil (notStar hs _ _)) (notStar hs _ _)).weak fun σ H Q h => ?_
  obtain ⟨ρ, st, W, P, r, w, k⟩ := h
  refine ⟨ρ, st, W, _, r, w, fun o st1 ρ1 W1 H1 x p1 s1 t1 => ?_⟩
  obtain ⟨i, e1, ⟨b1, b2⟩, q⟩ := p1
  obtain rfl := t1.toInt s1.rel e1
  exact ⟨i, rfl, b1, b2, k _ _ _ _ _ _ [] _ q s1 .nil wk_rng⟩
theorem si_rg2 {a b : IE} {v u : Expr} {p pos : Pos} (c : XOk F N S X sc) (hg : glB sc "range" = true) (ha : Sound X S v a) (hs : starB v = false) (hb : Sound X S u b) (hs2 : starB u = false) : SoundI X S (.Call (.Name "range" p) [v, u] [] pos) (.rg2 a b) := fun tg _ => by
  refine (pi_range2 (c.glOk hg) (c.blt _ (by decide)) (pa_cons ha.pe (pa_cons hb.pe pa_nil (notStar hs2 _ _)) (notStar hs _ _)) ((notStar hs _ _).trans (by rw [notStar hs2]; rfl)) (notStar hs2 _ _)).weak fun σ H Q h => ?_
  obtain ⟨ρ, st, W, P, r, w, k⟩ := h
  refine ⟨ρ, st, W, _, r, w, fun o st1 ρ1 W1 H1 x p1 s1 t1 => ⟨ρ1, st1, W1, _, s1.rel, p1, fun o2 st2 ρ2 W2 H2 y p2 s2 t2 => ?_⟩⟩
  obtain ⟨i, j, e1, e2, ⟨b1, b2⟩, ⟨b3, b4⟩, q⟩ := p2
  obtain rfl := t1.toInt s1.rel e1
  obtain rfl := t2.toInt s2.rel e2
  exact ⟨i, j, rfl, ⟨b1, b2, b3, b4⟩, k _ _ _ _ _ _ [] _ q (s1.trans r s2) .nil wk_rng⟩
theorem rangeSize_two (i j : Int) : Builtin.Range.rangeSize i j 2 = (((j - i + 1) / 2).toNat : Int) := by
  unfold Builtin.Range.rangeSize
  rw [if_pos (by omega)]
  split <;> omega
theorem rgC_two {i j : Int} (h1 : bigI i) (h2 : bigI j) : RgC i j 2 ((j - i + 1) / 2).toNat := by
  unfold bigI at h1 h2
  refine ⟨by decide, by decide, ?_, rangeSize_two i j⟩
  unfold Builtin.Range.small
  rw [rangeSize_two]
  simp only [Builtin.Range.rangeFitsLong, Bool.and_eq_true, Bool.or_eq_true, decide_eq_true_eq, beq_iff_eq, show ((2 : Int) > 0) by decide, if_true]
  omega
theorem wk_rgs {lo : Int} {n : Nat} {rd : (Addr → Prop) → Hp → Prop} : Wk (Itc lo 2 n) rd (rngS lo n) := by
  intro i W H hW hr
  have hl : (rngS lo n).length = n := by simp [rngS]
  rw [hl]
  refine ⟨fun e => Nat.le_of_eq e.symm, fun d hd => ?_⟩
  have hi : i < n := by
    have := (List.getElem?_eq_some_iff.mp hd).1
    omega
  have hd' : d = .int (lo + (i : Int) * 2) := by
    unfold rngS at hd
    rw [List.getElem?_map, List.getElem?_range hi] at hd
    exact (Option.some.inj hd).symm
  subst hd'
  exact ⟨hi, fun x H' ⟨e1, e2⟩ => by subst e1 e2; exact ⟨Ext.refl, .int _⟩⟩
theorem si_rg3 {a b d : IE} {v u t : Expr} {p pos : Pos} (c : XOk F N S X sc) (hg : glB sc "range" = true) (ha : Sound X S v a) (hs : starB v = false) (hb : Sound X S u b) (hs2 : starB u = false) (hd : Sound X S t d) (hs3 : starB t = false) : SoundI X S (.Call (.Name "range" p) [v, u, t] [] pos) (.rg3 a b d) := fun tg _ => by
  refine (pi_range3 (c.glOk hg) (c.blt _ (by decide)) (pa_cons ha.pe (pa_cons hb.pe (pa_cons hd.pe pa_nil (notStar hs3 _ _)) (notStar hs2 _ _)) (notStar hs _ _)) (notStar hs _ _) (by rw [notStar hs2, notStar hs3]; rfl)).weak fun σ H Q h => ?_
  obtain ⟨ρ, st, W, P, r, w, k⟩ := h
  refine ⟨ρ, st, W, _, r, w, fun o st1 ρ1 W1 H1 x p1 s1 t1 => ⟨ρ1, st1, W1, _, s1.rel, p1, fun o2 st2 ρ2 W2 H2 y p2 s2 t2 => ⟨ρ2, st2, W2, _, s2.rel, p2, fun o3 st3 ρ3 W3 H3 z p3 s3 t3 => ?_⟩⟩⟩
  obtain ⟨i, j, e1, e2, e3, b1, b2, q⟩ := p3
  obtain rfl := t1.toInt s1.rel e1
  obtain rfl := t2.toInt s2.rel e2
  obtain rfl := t3.toInt s3.rel e3
  exact ⟨i, j, 2, _, rfl, rgC_two b1 b2, k _ _ _ _ _ _ [] _ q ((s1.trans r s2).trans r s3) .nil wk_rgs⟩
theorem si_enm {e : IE} {v : Expr} {p pos : Pos} (c : XOk F N S X sc) (hg : glB sc "enumerate" = true) (he : Sound X S v e) (hs : starB v = false) : SoundI X S (.Call (.Name "enumerate" p) [v] [] pos) (.enm e) := fun tg ht => by
  obtain ⟨es, kk, tp, rfl⟩ := tup_of ht (fun t => by cases t <;> rfl)
  refine (pi_en (c.glOk hg) (c.blt _ (by decide)) (pa_cons he.pe pa_nil (notStar hs _ _)) (notStar hs _ _)).weak fun σ H Q h => ?_
  obtain ⟨ρ, st, W, P, r, w, k⟩ := h
  refine ⟨ρ, st, W, _, r, w, fun o st1 ρ1 W1 H1 x p1 s1 t1 => ?_⟩
  obtain ⟨ds, e1, q⟩ := p1
  obtain ⟨a, xs, rfl, hs, _⟩ := t1.sq s1.rel e1
  exact ⟨a, _, rfl, ⟨xs, hs⟩, k _ _ _ _ _ _ [.ref a] _ q s1 (.cons t1 .nil fun _ j o' x' h1 => by simp at h1) (wk_en fun W H hr => hr 0 o (.ref a) ds rfl rfl e1)⟩
theorem si_zip {a b : IE} {v u : Expr} {p pos : Pos} (c : XOk F N S X sc) (hg : glB sc "zip" = true) (ha : Sound X S v a) (hs : starB v = false) (hb : Sound X S u b) (hs2 : starB u = false) : SoundI X S (.Call (.Name "zip" p) [v, u] [] pos) (.zip a b) := fun tg ht => by
  obtain ⟨es, kk, tp, rfl⟩ := tup_of ht (fun t => by cases t <;> rfl)
  refine (RZ.pi_zipA (c.glOk hg) (c.blt _ (by decide)) (pa_cons ha.pe (pa_cons hb.pe pa_nil (notStar hs2 _ _)) (notStar hs _ _)) (notStar hs _ _) (by rw [notStar hs2]; rfl)).weak fun σ H Q h => ?_
  obtain ⟨ρ, st, W, P, r, w, k⟩ := h
  refine ⟨ρ, st, W, _, r, w, fun o st1 ρ1 W1 H1 x p1 s1 t1 => ⟨ρ1, st1, W1, _, s1.rel, p1, fun o2 st2 ρ2 W2 H2 y p2 s2 t2 => ?_⟩⟩
  obtain ⟨ok, ds, es', e1, e2, e3, q⟩ := p2
  have u1 := t1.later s2 s1.rel ok
  obtain ⟨a1, xs, rfl, hs1, _⟩ := u1.sq s2.rel e1
  obtain ⟨a2, ys, rfl, hs2', _⟩ := t2.sq s2.rel e2
  rw [← e3] at hs2'
  have both : ROs X.K ρ2 st2.env W2 σ H2 H [o, o2] [.ref a1, .ref a2] := by
    refine .cons u1 (.cons (t2.start fun a n => s1.free n) .nil fun _ j o' x' h1 => by simp at h1) fun ht j o' x' h1 h2 h3 => ?_
    cases j with
    | succ j => simp at h1
    | zero =>
      cases h1
      cases h2
      intro e9
      cases e9
      unfold RT at t1 t2
      rw [h3] at t2
      rw [ht] at t1
      obtain ⟨b, d, _, e1, _, _, _, n⟩ := t2
      obtain ⟨b', d', _, e2, _, ro, _⟩ := t1
      rw [e1] at e2; cases e2
      cases e1
      exact ro.there n
  have wk : Wk (if isTupV o.val then RZ.ItzT X.K a1 a2 else Itz X.K a1 a2) (OuR X.K [o, o2] [.ref a1, .ref a2]) (zipD ds es') := wk_zip (fun W H hr => hr 0 o (.ref a1) ds rfl rfl e1) (fun W H hr => by rw [e3]; exact hr 1 o2 (.ref a2) es' rfl rfl e2)
  refine ⟨a1, a2, xs, ys, rfl, ?_⟩
  cases ht : isTupV o.val with
  | true =>
    rw [ht] at hs1 hs2' wk
    exact .inr ⟨hs1, hs2', k _ _ _ _ _ _ _ _ q (s1.trans r s2) both wk⟩
  | false =>
    rw [ht] at hs1 hs2' wk
    exact .inl ⟨hs1, hs2', k _ _ _ _ _ _ _ _ q (s1.trans r s2) both wk⟩
theorem wk_zs {K : PySem.W.Frag} {t u : Bool} {a b : Addr} {ds es : List PyData} {rd : (Addr → Prop) → Hp → Prop} (h : ∀ W H, rd W H → Sq K W H t (.ref a) ds) (g : ∀ W H, rd W H → Sq K W H u (.ref b) es) (hl : ds.length = es.length) : Wk (ItzS K t u a b) rd (zipD ds es) := by
  intro i W H hW hr
  obtain ⟨a', xs, e, hs, ra⟩ := h W H hr
  obtain ⟨b', ys, e', hs', rb⟩ := g W H hr
  cases e
  cases e'
  have l1 := ra.length
  have l2 := rb.length
  rw [zipD_len]
  refine ⟨fun e => ⟨xs, ys, hs, hs', by omega, by omega⟩, fun d hd => ?_⟩
  obtain ⟨d1, d2, hd1, hd2, rfl⟩ := zipD_get hd
  obtain ⟨x, hx, rx⟩ := ra.get hd1
  obtain ⟨y, hy, ry⟩ := rb.get hd2
  refine ⟨⟨xs, ys, x, y, hs, hs', by omega, hx, hy⟩, fun z H' ⟨T, x', y', e1, hT, e2, h1, h2⟩ => ?_⟩
  subst e1 e2
  rw [h1 xs hs] at hx; cases hx
  rw [h2 ys hs'] at hy; cases hy
  exact R.pair hW hT rx ry
theorem si_zps {a b : IE} {v u : Expr} {p pos kp cp : Pos} {cj : Nat} (c : XOk F N S X sc) (hg : glB sc "zip" = true) (ha : Sound X S v a) (hs : starB v = false) (hb : Sound X S u b) (hs2 : starB u = false) :
    SoundI X S (.Call (.Name "zip" p) [v, u] [⟨some "strict", .Constant (.bool true) cj cp, kp⟩] pos) (.zps a b) := fun tg ht => by
  obtain ⟨es, kk, tp, rfl⟩ := tup_of ht (fun t => by cases t <;> rfl)
  refine (pi_zs (c.glOk hg) (c.blt _ (by decide)) (pa_cons ha.pe (pa_cons hb.pe pa_nil (notStar hs2 _ _)) (notStar hs _ _)) hs hs2).weak fun σ H Q h => ?_
  obtain ⟨ρ, st, W, P, r, w, k⟩ := h
  refine ⟨ρ, st, W, _, r, w, fun o st1 ρ1 W1 H1 x p1 s1 t1 => ⟨ρ1, st1, W1, _, s1.rel, p1, fun o2 st2 ρ2 W2 H2 y p2 s2 t2 => ?_⟩⟩
  obtain ⟨ok, ds, es', e1, e2, e3, q⟩ := p2
  have u1 := t1.later s2 s1.rel ok
  obtain ⟨a1, xs, rfl, hs1, _⟩ := u1.sq s2.rel e1
  obtain ⟨a2, ys, rfl, hs2', _⟩ := t2.sq s2.rel e2
  have both : ROs X.K ρ2 st2.env W2 σ H2 H [o, o2] [.ref a1, .ref a2] := by
    refine .cons u1 (.cons (t2.start fun a n => s1.free n) .nil fun _ j o' x' h1 => by simp at h1) fun ht j o' x' h1 h2 h3 => ?_
    cases j with
    | succ j => simp at h1
    | zero =>
      cases h1
      cases h2
      intro e9
      cases e9
      unfold RT at t1 t2
      rw [h3] at t2
      rw [ht] at t1
      obtain ⟨b, d, _, e1, _, _, _, n⟩ := t2
      obtain ⟨b', d', _, e2, _, ro, _⟩ := t1
      rw [e1] at e2; cases e2
      cases e1
      exact ro.there n
  exact ⟨a1, a2, _, _, xs, ys, rfl, hs1, hs2', k _ _ _ _ _ _ _ _ q (s1.trans r s2) both (wk_zs (fun W H hr => hr 0 o (.ref a1) ds rfl rfl e1) (fun W H hr => hr 1 o2 (.ref a2) es' rfl rfl e2) e3)⟩
end
end Ev
end

section
set_option Elab.async false
set_option linter.all false
set_option maxRecDepth 100000
/-! Ev17: targets; slots that are bound, hidden, brought back. -/
namespace Ev
open PySem PySem.Spec PyProof.Rows L2

/-! ### slots -/
section
variable {K : PySem.W.Frag} {ρ : List Addr} {st : Stt} {W : Addr → Prop} {σ : L2.St} {H : Hp}
/-- a slot is bound to a frozen value -/
theorem Rel.bind (r : Rel K ρ st W σ H) {i : Nat} {val : Val} {v : V} (hi : i < st.env.length) (hv : RVal K ρ W H val v) : Step K ρ st W σ H ρ { st with env := st.env.set i (some ⟨false, val⟩) } W (σ.set i (some v)) H := by
  have hs : i < σ.length := by rw [← r.len]; exact hi
  have own : ∀ (j : Nat) (w : Val), (st.env.set i (some ⟨false, val⟩))[j]? = some (some ⟨true, w⟩) → i ≠ j ∧ st.env[j]? = some (some ⟨true, w⟩) := by
    intro j w h
    by_cases e : i = j
    · subst e
      rw [List.getElem?_set_self hi] at h; cases h
    · rw [List.getElem?_set_ne e] at h
      exact ⟨e, h⟩
  refine ⟨⟨r.s, by simp [r.len], fun j w h => ?_, fun j w h => ?_, fun j k vj vk a h1 h2 h3 h4 => ?_⟩, ⟨Pres.refl, fun a w _ => ⟨w, rfl⟩, fun _ h => h⟩, List.prefix_refl _, fun a l => ?_⟩
  · by_cases e : i = j
    · subst e
      have h : (st.env.set i (some ⟨false, val⟩))[i]? = some (some ⟨false, w⟩) := h
      rw [List.getElem?_set_self hi] at h
      cases h
      exact ⟨v, List.getElem?_set_self hs, hv⟩
    · have h : (st.env.set i (some ⟨false, val⟩))[j]? = some (some ⟨false, w⟩) := h
      rw [List.getElem?_set_ne e] at h
      rw [List.getElem?_set_ne e]
      exact r.fz j w h
  · obtain ⟨e, h⟩ := own j w h
    rw [List.getElem?_set_ne e]
    exact r.ow j w h
  · obtain ⟨e1, h1⟩ := own j vj h1
    obtain ⟨e2, h2⟩ := own k vk h2
    rw [List.getElem?_set_ne e1] at h3
    rw [List.getElem?_set_ne e2] at h4
    exact r.ap j k vj vk a h1 h2 h3 h4
  · rcases l with l | ⟨j, w, l1, l2⟩
    · exact .inl (.inl l)
    · obtain ⟨e, l1⟩ := own j w l1
      rw [List.getElem?_set_ne e] at l2
      exact .inl (.inr ⟨j, w, l1, l2⟩)
theorem wipeE_len : ∀ (own : List Nat) (env : List (Option EV)), (wipeE own env).length = env.length
  | [], _ => rfl
  | v :: vs, env => by unfold wipeE; rw [List.length_set, wipeE_len vs]
theorem wipeE_some {own : List Nat} {env : List (Option EV)} {i : Nat} {ev : EV} (h : (wipeE own env)[i]? = some (some ev)) : env[i]? = some (some ev) ∧ i ∉ own := by
  induction own with
  | nil => exact ⟨h, by simp⟩
  | cons v vs ih =>
    unfold wipeE at h
    by_cases e : v = i
    · subst e
      by_cases hv : v < (wipeE vs env).length
      · rw [List.getElem?_set_self hv] at h; cases h
      · rw [List.getElem?_eq_none (by simpa using hv)] at h; cases h
    · rw [List.getElem?_set_ne e] at h
      obtain ⟨h1, h2⟩ := ih h
      exact ⟨h1, by simp only [List.mem_cons, not_or]; exact ⟨fun z => e z.symm, h2⟩⟩
theorem wipe_at {own : List Nat} {i : Nat} (h : i ∉ own) : (wipe σ own)[i]? = σ[i]? := by
  induction own with
  | nil => rfl
  | cons v vs ih =>
    simp only [List.mem_cons, not_or] at h
    unfold wipe
    rw [List.getElem?_set_ne (fun e => h.1 e.symm)]
    exact ih h.2
/-- slots hidden -/
theorem Rel.wipe (r : Rel K ρ st W σ H) (own : List Nat) : Step K ρ st W σ H ρ { st with env := wipeE own st.env } W (L2.wipe σ own) H := by
  refine ⟨⟨r.s, by rw [wipe_length]; exact (wipeE_len own st.env).trans r.len, fun j w h => ?_, fun j w h => ?_, fun j k vj vk a h1 h2 h3 h4 => ?_⟩, ⟨Pres.refl, fun a w _ => ⟨w, rfl⟩, fun _ h => h⟩, List.prefix_refl _, fun a l => ?_⟩
  · obtain ⟨h, n⟩ := wipeE_some (env := st.env) h
    rw [wipe_at n]
    exact r.fz j w h
  · obtain ⟨h, n⟩ := wipeE_some (env := st.env) h
    rw [wipe_at n]
    exact r.ow j w h
  · obtain ⟨h1, n1⟩ := wipeE_some (env := st.env) h1
    obtain ⟨h2, n2⟩ := wipeE_some (env := st.env) h2
    rw [wipe_at n1] at h3
    rw [wipe_at n2] at h4
    exact r.ap j k vj vk a h1 h2 h3 h4
  · rcases l with l | ⟨j, w, l1, l2⟩
    · exact .inl (.inl l)
    · obtain ⟨l1, n⟩ := wipeE_some (env := st.env) l1
      rw [wipe_at n] at l2
      exact .inl (.inr ⟨j, w, l1, l2⟩)
theorem backE_len : ∀ (own : List Nat) (old env : List (Option EV)), (backE own old env).length = env.length
  | [], _, _ => rfl
  | v :: vs, old, env => by unfold backE; rw [List.length_set, backE_len vs]
theorem backE_at {own : List Nat} {old env : List (Option EV)} {i : Nat} {ev : EV} (hl : old.length = env.length) (h : (backE own old env)[i]? = some (some ev)) : (i ∈ own ∧ old[i]? = some (some ev)) ∨ (i ∉ own ∧ env[i]? = some (some ev)) := by
  induction own with
  | nil => exact .inr ⟨by simp, h⟩
  | cons v vs ih =>
    unfold backE at h
    by_cases e : v = i
    · subst e
      by_cases hv : v < (backE vs old env).length
      · rw [List.getElem?_set_self hv] at h
        have hv' : v < old.length := by rw [backE_len] at hv; omega
        refine .inl ⟨List.mem_cons_self, ?_⟩
        rw [List.getElem?_eq_getElem hv'] at h ⊢
        simpa using h
      · rw [List.getElem?_eq_none (by simpa using hv)] at h; cases h
    · rw [List.getElem?_set_ne e] at h
      rcases ih h with ⟨h1, h2⟩ | ⟨h1, h2⟩
      · exact .inl ⟨List.mem_cons_of_mem _ h1, h2⟩
      · exact .inr ⟨by simp only [List.mem_cons, not_or]; exact ⟨fun z => e z.symm, h1⟩, h2⟩
/-- .. and brought back -/
theorem Rel.back {ρ' : List Addr} {st' : Stt} {W' : Addr → Prop} {H' : Hp} {own : List Nat} (r : Rel K ρ st W σ H) (s : Step K ρ { st with env := wipeE own st.env } W (L2.wipe σ own) H ρ' st' W' (L2.wipe σ own) H') :
    Step K ρ st W σ H ρ' { st' with env := backE own st.env st'.env } W' σ H' := by
  have hl : st.env.length = st'.env.length := by rw [r.len, s.rel.len, wipe_length]
  have kept : ∀ (i : Nat) (val : Val) (a : Addr), i ∈ own → st.env[i]? = some (some ⟨true, val⟩) → σ[i]? = some (some (.ref a)) → ¬ Lc ρ (wipeE own st.env) (L2.wipe σ own) a := by
    intro i val a hi he ha l
    rcases l with l | ⟨j, w, l1, l2⟩
    · obtain ⟨b, d, _, h1, _, _, h2⟩ := r.ow i val he
      rw [ha] at h1; cases h1
      exact h2 l
    · obtain ⟨l1, n⟩ := wipeE_some l1
      rw [wipe_at n] at l2
      exact n (r.ap i j _ _ a he l1 ha l2 ▸ hi)
  have wk : ∀ a, Lc ρ (wipeE own st.env) (L2.wipe σ own) a → Lc ρ st.env σ a := fun a l => by
    rcases (r.wipe own).sub a l with q | q
    · exact q
    · exact absurd q (r.s.wn a (Lc.there (r.wipe own).rel l).1)
  refine ⟨⟨s.rel.s, ?_, fun i val h => ?_, fun i val h => ?_, fun i j vi vj a h1 h2 h3 h4 => ?_⟩, ⟨s.fr.keep, fun a w l => s.fr.hold a w fun q => l (wk a q), s.fr.there⟩, s.pre, fun a l => ?_⟩
  · show (backE own st.env st'.env).length = _
    rw [backE_len, ← hl]
    exact r.len
  · rcases backE_at hl h with ⟨h1, h2⟩ | ⟨h1, h2⟩
    · obtain ⟨v, q1, q2⟩ := r.fz i val h2
      exact ⟨v, q1, q2.pres s.fr.keep s.pre⟩
    · obtain ⟨v, q1, q2⟩ := s.rel.fz i val h2
      rw [wipe_at h1] at q1
      exact ⟨v, q1, q2⟩
  · rcases backE_at hl h with ⟨h1, h2⟩ | ⟨h1, h2⟩
    · obtain ⟨a, d, q1, q2, q3, q4, q5⟩ := r.ow i val h2
      have nl := kept i val a h1 h2 q2
      obtain ⟨w, e⟩ := s.fr.hold a q3 nl
      refine ⟨a, d, q1, q2, w, q4.pres s.fr.keep e, fun z => ?_⟩
      rcases s.sub a (.inl z) with q | q
      · exact nl q
      · exact q4.there q
    · obtain ⟨a, d, q1, q2, q3⟩ := s.rel.ow i val h2
      rw [wipe_at h1] at q2
      exact ⟨a, d, q1, q2, q3⟩
  · have mix : ∀ (i j : Nat) (vi vj : Val), i ∈ own → st.env[i]? = some (some ⟨true, vi⟩) → j ∉ own → st'.env[j]? = some (some ⟨true, vj⟩) → σ[i]? = some (some (.ref a)) → σ[j]? = some (some (.ref a)) → False := by
      intro i j vi vj m1 e1 m2 e2 g1 g2
      have nl := kept i vi a m1 e1 g1
      obtain ⟨b, d, _, q2, q3, q4, _⟩ := r.ow i vi e1
      rw [g1] at q2; cases q2
      rcases s.sub a (.inr ⟨j, vj, e2, by rw [wipe_at m2]; exact g2⟩) with q | q
      · exact nl q
      · exact q4.there q
    rcases backE_at hl h1 with ⟨m1, e1⟩ | ⟨m1, e1⟩ <;> rcases backE_at hl h2 with ⟨m2, e2⟩ | ⟨m2, e2⟩
    · exact r.ap i j _ _ a e1 e2 h3 h4
    · exact (mix i j _ _ m1 e1 m2 e2 h3 h4).elim
    · exact (mix j i _ _ m2 e2 m1 e1 h4 h3).elim
    · exact s.rel.ap i j _ _ a e1 e2 (by rw [wipe_at m1]; exact h3) (by rw [wipe_at m2]; exact h4)
  · rcases l with l | ⟨i, val, l1, l2⟩
    · rcases s.sub a (.inl l) with q | q
      · exact .inl (wk a q)
      · exact .inr q
    · rcases backE_at hl l1 with ⟨h1, h2⟩ | ⟨h1, h2⟩
      · exact .inl (.inr ⟨i, val, h2, l2⟩)
      · rcases s.sub a (.inr ⟨i, val, h2, by rw [wipe_at h1]; exact l2⟩) with q | q
        · exact .inl (wk a q)
        · exact .inr q
end

/-! ### targets -/
mutual
def gT (K : PySem.W.Frag) : Tg → TG
  | .nm i => gName i
  | .tup ts => fun v σ H Q => gTup K ts.length (gTs K ts) v σ H Q ∨ gUnl K ts.length (gTs K ts) v σ H Q
def gTs (K : PySem.W.Frag) : List Tg → TGs
  | [] => gNil
  | t :: ts => gCons (gT K t) (gTs K ts)
end
theorem _root_.L2.PG.or {X : Cx} {tg : Expr} {a b : TG} (h1 : PG X tg a) (h2 : PG X tg b) : PG X tg (fun v σ H Q => a v σ H Q ∨ b v σ H Q) :=
  ⟨fun pins s σ H v u Q I r h => h.elim (fun h => h1.run pins s σ H v u Q I r h) fun h => h2.run pins s σ H v u Q I r h⟩
theorem each_cons {e : Expr} {es : List Expr} {env : Env} (h : starB e = false) : assignEach (e :: es) env = (false, assign e env) :: assignEach es env := by
  cases e <;> first
    | rfl
    | simp [starB] at h
section
variable {F : List String} {N : List Str} {S : SpecK} {X : Cx} {sc : Scope}
mutual
theorem pg_of (c : XOk F N S X sc) : ∀ (t : Tg) (e : Expr), mT N sc t e = true → PG X e (gT X.K t) := fun t e h => by
  cases t with
  | nm i =>
    cases e with
    | Name x p =>
      simp only [mT, Bool.and_eq_true, decide_eq_true_eq] at h
      exact pg_name (by rw [c.hN]; exact c.nd) (by rw [c.hN]; exact h.1) (c.locOk h.2) (c.fnok x h.2)
    | _ => simp [mT] at h
  | tup ts =>
    cases e with
    | Tuple es k p =>
      simp only [mT, Bool.and_eq_true] at h
      obtain ⟨h1, h2, h3⟩ := pgs_of c ts es h.1
      exact (pg_tup c.calm h1 h2 h3).or (pg_unl c.calm h1 h2 h3)
    | _ => simp [mT] at h
theorem pgs_of (c : XOk F N S X sc) : ∀ (ts : List Tg) (es : List Expr), mTs N sc ts es = true → PGs X es (gTs X.K ts) ∧ (assignEach es X.env).length = ts.length ∧ (assignEach es X.env).findIdx? (·.1) = none := fun ts es h => by
  cases ts with
  | nil =>
    cases es with
    | nil => exact ⟨pgs_nil, rfl, rfl⟩
    | cons _ _ => simp [mTs] at h
  | cons t ts =>
    cases es with
    | nil => simp [mTs] at h
    | cons e es =>
      simp only [mTs, Bool.and_eq_true, Bool.not_eq_true'] at h
      obtain ⟨⟨h1, h2⟩, h3⟩ := h
      have g := pg_of c t e h1
      obtain ⟨gs, l, f⟩ := pgs_of c ts es h3
      refine ⟨pgs_cons g gs (by rw [each_cons h2]; rfl), by rw [each_cons h2]; simp [l], ?_⟩
      rw [each_cons h2, List.findIdx?_cons]
      simp [f]
end
end
section
variable {K : PySem.W.Frag} {ρ : List Addr} {W : Addr → Prop} {H : Hp}
mutual
theorem gT_of : ∀ (t : Tg) (d : D) (v : V) (st : Stt) (σ : L2.St) (env' : List (Option EV)) (Q : L2.St → Hp → Prop), Rel K ρ st W σ H → R W H v d → bindT t d st.env = some env' →
    (∀ σ', Step K ρ st W σ H ρ { st with env := env' } W σ' H → (∀ j, j ∉ slotsT t → σ'[j]? = σ[j]?) → Q σ' H) → gT K t v σ H Q := fun t d v st σ env' Q r hv hb k => by
  cases t with
  | nm i =>
    simp only [bindT] at hb
    split at hb
    · rename_i hl
      cases hb
      exact k _ (r.bind hl (val := .dat d) hv) fun j hj => List.getElem?_set_ne (fun e => hj (by simp [slotsT, e]))
    · cases hb
  | tup ts =>
    cases d with
    | tuple ds =>
      cases hv with
      | tup w e ra =>
        obtain ⟨hl, g⟩ := gTs_of ts ds _ st σ env' Q r ra hb k
        exact .inl ⟨_, _, rfl, SqT.of e, by rw [ra.length]; exact hl, g⟩
    | list ds =>
      cases hv with
      | lst w e ra =>
        obtain ⟨hl, g⟩ := gTs_of ts ds _ st σ env' Q r ra hb k
        exact .inr ⟨_, _, rfl, SqL.of e, by rw [ra.length]; exact hl, g⟩
    | _ => simp [bindT] at hb
theorem gTs_of : ∀ (ts : List Tg) (ds : List D) (vs : List V) (st : Stt) (σ : L2.St) (env' : List (Option EV)) (Q : L2.St → Hp → Prop), Rel K ρ st W σ H → RA W H vs ds → bindTs ts ds st.env = some env' →
    (∀ σ', Step K ρ st W σ H ρ { st with env := env' } W σ' H → (∀ j, j ∉ slotsTs ts → σ'[j]? = σ[j]?) → Q σ' H) → ds.length = ts.length ∧ gTs K ts vs σ H Q := fun ts ds vs st σ env' Q r hv hb k => by
  cases ts with
  | nil =>
    cases ds with
    | nil =>
      cases hb
      cases hv
      exact ⟨rfl, rfl, k _ r.refl fun _ _ => rfl⟩
    | cons _ _ => simp [bindTs] at hb
  | cons t ts =>
    cases ds with
    | nil => simp [bindTs] at hb
    | cons d ds =>
      cases hv with
      | cons h1 h2 =>
        simp only [bindTs] at hb
        cases e1 : bindT t d st.env with
        | none => rw [e1] at hb; cases hb
        | some env1 =>
          rw [e1] at hb
          -- the length does not hang on the state
          have len : ds.length = ts.length := bindTs_len ts ds env1 env' hb
          refine ⟨by simp [len], _, _, rfl, gT_of t d _ st σ env1 _ r h1 e1 fun σ1 s1 f1 => ?_⟩
          refine (gTs_of ts ds _ { st with env := env1 } σ1 env' Q s1.rel (h2.pres s1.fr.keep) hb fun σ2 s2 f2 => k σ2 (s1.trans r s2) fun j hj => ?_).2
          simp only [slotsTs, List.mem_append, not_or] at hj
          rw [f2 j hj.2, f1 j hj.1]
theorem bindTs_len : ∀ (ts : List Tg) (ds : List D) (env env' : List (Option EV)), bindTs ts ds env = some env' → ds.length = ts.length := fun ts ds env env' h => by
  cases ts with
  | nil => cases ds with
    | nil => rfl
    | cons _ _ => simp [bindTs] at h
  | cons t ts => cases ds with
    | nil => simp [bindTs] at h
    | cons d ds =>
      simp only [bindTs] at h
      cases e1 : bindT t d env with
      | none => rw [e1] at h; cases h
      | some env1 =>
        rw [e1] at h
        have := bindTs_len ts ds env1 env' h
        simp [this]
end
end
mutual
theorem bindT_len' : ∀ {t : Tg} {d : D} {env env' : List (Option EV)}, bindT t d env = some env' → env'.length = env.length := fun {t d env env'} h => by
  cases t with
  | nm i =>
    simp only [bindT] at h
    split at h
    · cases h; simp
    · cases h
  | tup ts =>
    cases d with
    | tuple ds => exact bindTs_len' (ts := ts) h
    | list ds => exact bindTs_len' (ts := ts) h
    | _ => simp [bindT] at h
theorem bindTs_len' : ∀ {ts : List Tg} {ds : List D} {env env' : List (Option EV)}, bindTs ts ds env = some env' → env'.length = env.length := fun {ts ds env env'} h => by
  cases ts with
  | nil => cases ds with
    | nil => cases h; rfl
    | cons _ _ => simp [bindTs] at h
  | cons t ts => cases ds with
    | nil => simp [bindTs] at h
    | cons d ds =>
      simp only [bindTs] at h
      cases e1 : bindT t d env with
      | none => rw [e1] at h; cases h
      | some env1 =>
        rw [e1] at h
        rw [bindTs_len' (ts := ts) h, bindT_len' e1]
end
end Ev
end

section
set_option Elab.async false
set_option linter.all false
set_option maxRecDepth 100000
/-! Ev18: comprehensions. -/
namespace Ev
open PySem PySem.Spec PyProof.Rows L2

section
variable {K : PySem.W.Frag} {ρ ρ' ρ1 : List Addr} {st st' st1 : Stt} {W W' W1 : Addr → Prop} {σ σ' σ1 : L2.St} {H H' H1 H0 : Hp}
theorem wipe_get (own : List Nat) (i : Nat) : (L2.wipe σ own)[i]? = if i ∈ own then (if i < σ.length then some none else none) else σ[i]? := by
  induction own with
  | nil => simp [L2.wipe]
  | cons v vs ih =>
    unfold L2.wipe
    by_cases e : v = i
    · subst e
      simp only [List.mem_cons, true_or, if_true]
      by_cases hv : v < σ.length
      · rw [List.getElem?_set_self (by rw [wipe_length]; exact hv), if_pos hv]
      · rw [List.getElem?_eq_none (by simp [wipe_length]; omega), if_neg hv]
    · rw [List.getElem?_set_ne e, ih]
      have : (i ∈ v :: vs) ↔ i ∈ vs := by simp only [List.mem_cons]; exact ⟨fun h => h.elim (fun z => absurd z.symm e) id, .inr⟩
      simp only [this]
theorem wipe_eq {own : List Nat} (h : ∀ j, j ∉ own → σ'[j]? = σ[j]?) (hl : σ'.length = σ.length) : L2.wipe σ' own = L2.wipe σ own := by
  refine List.ext_getElem? fun j => ?_
  rw [wipe_get, wipe_get, hl]
  split
  · rfl
  · rename_i n; exact h j n
theorem wipe_wipe (own : List Nat) : L2.wipe (L2.wipe σ own) own = L2.wipe σ own := wipe_eq (fun j n => by rw [wipe_get, if_neg n]) (wipe_length _ _)

/-- a list at D that nobody's slot has -/
def FreeL (ρ : List Addr) (env : List (Option EV)) (W : Addr → Prop) (σ : L2.St) (H : Hp) (D : Addr) (acc : List PyData) : Prop := W D ∧ ¬ Lc ρ env σ D ∧ ∃ xs, H D = some (.lst xs) ∧ RA W H xs acc
theorem FreeL.step {D : Addr} {acc : List PyData} (h : FreeL ρ st.env W σ H D acc) (s : Step K ρ st W σ H ρ' st' W' σ' H') : FreeL ρ' st'.env W' σ' H' D acc := by
  obtain ⟨w, l, xs, e, ra⟩ := h
  obtain ⟨w', e'⟩ := s.fr.hold D w l
  refine ⟨w', fun z => ?_, xs, e'.trans e, ra.pres s.fr.keep⟩
  rcases s.sub D z with q | q
  · exact l q
  · rw [e] at q; cases q
theorem Step.upd (r : Rel K ρ st W σ H) (s : Step K ρ st W σ H ρ' st' W' σ' H') {D : Addr} {o : HO} (h0 : H D = none) (hw : W' D) (hl : ¬ Lc ρ' st'.env σ' D) : Step K ρ st W σ H ρ' st' W' σ' (L2.upd H' D o) := by
  have ne : ∀ a, H a ≠ none → a ≠ D := fun a h z => h (by rw [z]; exact h0)
  have pr : Pres W' H' W' (L2.upd H' D o) := fun a q w e => ⟨w, by rw [upd_ne (fun z => w (by rw [z]; exact hw))]; exact e⟩
  have r' := s.rel
  refine ⟨⟨⟨r'.s.len, r'.s.nd, fun j ob a h1 h2 => ?_, fun a w => ?_⟩, r'.len, fun i v h => ?_, fun i v h => ?_, r'.ap⟩, ⟨s.fr.keep.trans pr, fun a w l => ?_, fun a h => ?_⟩, s.pre, s.sub⟩
  · obtain ⟨w, q⟩ := r'.s.at_ j ob a h1 h2
    exact ⟨w, q.ext (upd_ne fun z => hl (.inl (by rw [← z]; exact List.mem_of_getElem? h2))) (List.prefix_refl _)⟩
  · by_cases z : a = D
    · rw [z, upd_same]; simp
    · rw [upd_ne z]; exact r'.s.wn a w
  · obtain ⟨v', q1, q2⟩ := r'.fz i v h
    exact ⟨v', q1, q2.pres pr (List.prefix_refl _)⟩
  · obtain ⟨b, d, q1, q2, q3, q4, q5⟩ := r'.ow i v h
    exact ⟨b, d, q1, q2, q3, q4.pres pr (upd_ne fun y => hl (.inr ⟨i, v, h, by rw [q2, y]⟩)), q5⟩
  · obtain ⟨w', e⟩ := s.fr.hold a w l
    exact ⟨w', by rw [upd_ne (ne a (r.s.wn a w))]; exact e⟩
  · by_cases z : a = D
    · rw [z, upd_same]; simp
    · rw [upd_ne z]; exact s.fr.there a h
theorem RT.wiped {own : List Nat} {o : Out} {x : V} (r : Rel K ρ st W σ H) (h : RT K ρ st.env W σ H H0 o x) (ok : okO o { st with env := wipeE own st.env }) : RT K ρ (wipeE own st.env) W (L2.wipe σ own) H H0 o x := by
  obtain ⟨tag, val⟩ := o
  cases tag with
  | frz => exact h
  | fre =>
    obtain ⟨a, d, e, ex, w, ro, nl, h0⟩ := h
    refine ⟨a, d, e, ex, w, ro, fun z => ?_, h0⟩
    rcases (r.wipe own).sub a z with q | q
    · exact nl q
    · exact ro.there q
  | slot i => exact ⟨ok, by rw [wipe_at (wipeE_some (env := st.env) ok).2]; exact h.2⟩
theorem ROs.wiped {own : List Nat} {os : List Out} {xs : List V} (r : Rel K ρ st W σ H) (h : ROs K ρ st.env W σ H H0 os xs) (ok : okAs os { st with env := wipeE own st.env }) : ROs K ρ (wipeE own st.env) W (L2.wipe σ own) H H0 os xs := by
  induction h with
  | nil => exact .nil
  | cons a b c ih => exact .cons (a.wiped r (ok _ List.mem_cons_self)) (ih fun o ho => ok o (List.mem_cons_of_mem _ ho)) c
end

/-! ### blocks -/
section
variable {F : List String} {N : List Str} {S : SpecK} {X : Cx} {sc scope : Scope}
theorem lookup_map {f : Str × NameKind → Str × NameKind} (h1 : ∀ p, (f p).1 = p.1) (h2 : ∀ n, (f (n, .free)).2 = .free ∨ (f (n, .free)).2 = .cell) : ∀ {names : List (Str × NameKind)} {x : Str}, names.lookup x = some .free → (names.map f).lookup x = some .free ∨ (names.map f).lookup x = some .cell
  | [], _, h => by simp at h
  | (n, k) :: r, x, h => by
    rw [List.map_cons]
    have e : f (n, k) = (n, (f (n, k)).2) := Prod.ext (h1 _) rfl
    rw [e]
    cases hx : x == n with
    | true =>
      simp only [List.lookup_cons, hx] at h ⊢
      cases h
      rcases h2 n with q | q
      · exact .inl (by rw [q])
      · exact .inr (by rw [q])
    | false =>
      simp only [List.lookup_cons, hx] at h ⊢
      exact lookup_map h1 h2 h
theorem relS_free {sc : Scope} {names : List (Str × NameKind)} {x : Str} (h : names.lookup x = some .free) :
    (names.map fun (n, k) => if (k == NameKind.free && sc.kind == .function && sc.names.lookup n == some .cell) then (n, NameKind.cell) else (n, k)).lookup x = some .free ∨
    (names.map fun (n, k) => if (k == NameKind.free && sc.kind == .function && sc.names.lookup n == some .cell) then (n, NameKind.cell) else (n, k)).lookup x = some .cell :=
  lookup_map (fun p => by obtain ⟨n, k⟩ := p; dsimp only; split <;> rfl) (fun n => by dsimp only; split <;> simp) h
theorem XOk.blk (c : XOk F N S X sc) (s : Shared) (H : Hp) (C : Addr) (cl : List (Str × Addr)) (fp : List Addr) : XOk F N S (X.blk s H scope (compEnvC scope cl C X.env) fp) scope where
  hN := c.hN
  nd := c.nd
  calm := c.calm
  guards := c.guards
  room := c.room
  noex := rfl
  vis := fun x k h hk => lookup_relS_keep (sc := X.env.scope) hk h
  visF := fun x h => relS_free (sc := X.env.scope) h
  fnok := fun x h => by
    unfold locB at h
    split at h
    · rename_i e; exact .inr (lookup_relS_keep (sc := X.env.scope) (by decide) e)
    · rename_i e; exact .inl (by show (scope.names.lookup x == some NameKind.cell) = true; rw [e]; rfl)
    · cases h
  blt := c.blt
  call := c.call
theorem XOk.blkOk (c : XOk F N S X sc) {own : List (Str × Nat)} (h : blkC N sc scope own = true) : BlkOk X.N X.env.scope scope own := by
  have b := blkOk_by h
  refine ⟨b.kind, b.uniq, by rw [c.hN]; exact b.ix, fun y hy e => ?_, by rw [c.hN]; exact b.own⟩
  rcases b.free y hy e with q | q
  · exact .inl (c.vis _ _ q (by decide))
  · exact (c.visF _ q).symm
def SoundC (X : Cx) (S : SpecK) (ifs : List Expr) (o : IO) : Prop := PTs X ifs (TT' X.K (wpC S o))
theorem sc_no : SoundC X S [] .no := ⟨fun pins s σ H Q I h => pts_nil.run pins s σ H Q I (by
  obtain ⟨ρ, st, W, P, r, w, k⟩ := h
  exact k _ _ _ _ _ w r.refl)⟩
theorem sc_so {e : IE} {v : Expr} (h : Sound X S v e) (ht : testB v = true) : SoundC X S [v] (.so e) := ⟨fun pins s σ H Q I hw => (pts_one (h.pt ht)).run pins s σ H Q I hw⟩
theorem foldOff {e : Expr} {env : Env} (h : setB e = false) (x : Value) : foldedSetIterable e env x = pure x := by
  cases e <;> first
    | rfl
    | simp [setB] at h
theorem wpComp_chk {chk : Stt → Prop} {step : PyData → (Option PyData → Stt → Prop) → Stt → Prop} {done : List PyData → Stt → Prop} {ds acc : List PyData} {st : Stt} (h : wpComp chk step done ds acc st) : chk st := by
  cases ds with
  | nil => exact h.1
  | cons d ds => exact h.1
theorem own_map {N : List Str} (own : List Nat) : (own.map fun i => ((N.getD i "" : Str), i)).map (·.2) = own := by simp [List.map_map, Function.comp_def]
end

section
variable {F : List String} {N : List Str} {S : SpecK} {X : Cx} {sc scope : Scope}
theorem comp_te {elt : IE} {tg : Tg} {it : II} {cond : IO} {own : List Nat} (hown : (slotsT tg).all (own.contains ·) = true) {σ : L2.St} {H : Hp} {Q : VK} {v : PreE} (hv : wpX S (.comp elt tg it cond own) = both v) (h : TE' X.K v σ H Q) :
    tLc (TI' X.K (wpI S it)) (gT X.K tg) (TT' X.K (wpC S cond)) (TE' X.K (wpE S elt)) own σ H Q := by
  have hv := congrArg Prod.fst hv
  have hv : _ = v := hv
  subst hv
  obtain ⟨ρ, st, W, P, r, w, k⟩ := h
  refine ⟨ρ, st, W, _, r, w, fun ds os st1 ρ1 W1 H1 xs J p1 s1 t1 wk D hD => ?_⟩
  have r1 := s1.rel
  have sw := r1.wipe own
  have rw_ := sw.rel
  have tw := t1.wiped r1 (wpComp_chk p1)
  have gr : Step X.K ρ1 { st1 with env := wipeE own st1.env } W1 (L2.wipe σ own) H1 ρ1 { st1 with env := wipeE own st1.env } (fun a => W1 a ∨ a = D) (L2.wipe σ own) (L2.upd H1 D (.lst [])) :=
    rw_.grow (Ext.upd hD) (fun a w => .inl w) fun a w => w.elim .inl fun z => .inr (by subst z; exact ⟨hD, by rw [upd_same]; simp⟩)
  have fr0 : FreeL ρ1 (wipeE own st1.env) (fun a => W1 a ∨ a = D) (L2.wipe σ own) (L2.upd H1 D (.lst [])) D [] :=
    ⟨.inr rfl, fun l => (Lc.there rw_ l).2 hD, [], upd_same, .nil⟩
  generalize hstep : (fun (d : PyData) (K : Option PyData → Stt → Prop) (st2 : Stt) => ∃ env', bindT tg d (wipeE own st2.env) = some env' ∧
        wpC S cond (fun b st3 => if b then (wpX S elt).1 (fun o st4 => ∃ v, o.val = .dat v ∧ K (some v) { frz o st4 with env := wipeE own (frz o st4).env }) st3 else K none { st3 with env := wipeE own st3.env }) { st2 with env := env' }) = step at p1
  generalize hdone : (fun (acc : List PyData) (st5 : Stt) => P ⟨.fre, .dat (.list acc)⟩ { st5 with env := backE own st1.env st5.env }) = done at p1
  refine ⟨fun i m Hc => m = ds.length - i ∧ i ≤ ds.length ∧ ∃ ρ' st' W' acc, Step X.K ρ1 { st1 with env := wipeE own st1.env } W1 (L2.wipe σ own) H1 ρ' st' W' (L2.wipe σ own) Hc ∧ FreeL ρ' st'.env W' (L2.wipe σ own) Hc D acc ∧ wpComp (okAs os) step done (ds.drop i) acc st',
    ⟨ds.length, by simp, by omega, ρ1, _, _, [], gr, fr0, by simpa using p1⟩, ?_⟩
  rintro i m Hc ⟨hm, hi, ρ', st', W', acc, s2, fr2, p2⟩
  have our := (ROs.later s2 rw_ tw (wpComp_chk p2)).our s2.rel
  obtain ⟨w1, w2⟩ := wk i W' Hc s2.rel.s.wn our
  by_cases hlt : i < ds.length
  · obtain ⟨w3, w4⟩ := w2 ds[i] (List.getElem?_eq_getElem hlt)
    rw [List.drop_eq_getElem_cons hlt] at p2
    obtain ⟨chk, hlen, p3⟩ := p2
    rw [← hstep] at p3
    obtain ⟨env', hb, p4⟩ := p3
    refine .inr ⟨w3, fun Hc => i + 1 ≤ ds.length ∧ ∃ ρ' st' W' acc, Step X.K ρ1 { st1 with env := wipeE own st1.env } W1 (L2.wipe σ own) H1 ρ' st' W' (L2.wipe σ own) Hc ∧ FreeL ρ' st'.env W' (L2.wipe σ own) Hc D acc ∧ wpComp (okAs os) step done (ds.drop (i + 1)) acc st',
      fun H' ⟨z1, z2⟩ => ⟨ds.length - (i + 1), by omega, rfl, z1, z2⟩, fun x H' hy => ?_⟩
    obtain ⟨ext, rx⟩ := w4 x H' hy
    have g2 : Step X.K ρ' st' W' (L2.wipe σ own) Hc ρ' st' W' (L2.wipe σ own) H' := s2.rel.grow ext (fun _ w => w) fun _ w => .inl w
    have g3 := g2.trans s2.rel (g2.rel.wipe own)
    rw [wipe_wipe] at g3
    refine gT_of tg ds[i] x { st' with env := wipeE own st'.env } _ env' _ g3.rel rx hb fun σ2 g4 same => ?_
    have ws : L2.wipe σ2 own = L2.wipe σ own := by
      have hl : σ2.length = (L2.wipe σ own).length := by rw [← g4.rel.len, ← g3.rel.len]; exact (bindT_len' hb)
      rw [← wipe_wipe (σ := σ) own]
      refine wipe_eq (fun j hj => same j fun z => hj ?_) hl
      have := List.all_eq_true.mp hown j z
      simpa using this
    have g5 := g3.trans s2.rel g4
    refine ⟨ws, ρ', _, W', _, g4.rel, p4, fun b st3 ρ3 W3 H3 p5 s3 => ?_⟩
    have g6 := g5.trans s2.rel s3
    cases b with
    | false =>
      simp only [Bool.false_eq_true, if_false] at p5 ⊢
      have g7 := g6.trans s2.rel (s3.rel.wipe own)
      rw [ws] at g7
      rw [hstep] at p5
      exact ⟨by omega, ρ3, _, W3, acc, s2.trans rw_ g7, fr2.step g7, p5⟩
    | true =>
      simp only [if_true] at p5 ⊢
      refine ⟨ρ3, st3, W3, _, s3.rel, p5, fun o st4 ρ4 W4 H4 y p6 s4 t4 => ?_⟩
      obtain ⟨v, ev, p7⟩ := p6
      obtain ⟨W5, s5, _, _, fz⟩ := freeze (os := [o]) (xs := [y]) s3.rel s4 (.cons t4 .nil fun _ j o' x' h1 => by simp at h1)
      rw [frz_one] at s5
      obtain ⟨y', hy', rv⟩ := fz 0 o rfl
      simp at hy'
      subst hy'
      rw [ev] at rv
      have g7 := g6.trans s2.rel s5
      have g8 := g7.trans s2.rel (s5.rel.wipe own)
      rw [ws] at g8
      have f8 := fr2.step g8
      obtain ⟨fw, fl, zs, fe, fa⟩ := f8
      rw [hstep] at p7
      refine ⟨zs, fe, by rw [fa.length]; exact hlen, by omega, ρ4, _, W5, acc ++ [v], Step.upd rw_ (s2.trans rw_ g8) hD fw fl, ⟨fw, fl, zs ++ [y], upd_same, ?_⟩, p7⟩
      have pr : Pres W5 H4 W5 (L2.upd H4 D (.lst (zs ++ [y]))) := fun a q w e => ⟨w, by rw [upd_ne (fun z => w (by rw [z]; exact fw))]; exact e⟩
      exact (fa.app (.cons rv .nil)).pres pr
  · have e : i = ds.length := by omega
    subst e
    rw [List.drop_length] at p2
    obtain ⟨chk, p3⟩ := p2
    rw [← hdone] at p3
    have bk := r1.back s2
    obtain ⟨fw, fl, zs, fe, fa⟩ := fr2
    refine .inl ⟨w1 rfl, k _ _ _ _ _ _ p3 (s1.trans r bk) ⟨D, _, rfl, rfl, fw, ⟨zs, fe, fa⟩, fun l => ?_, s1.free hD⟩⟩
    rcases l with l | ⟨j, val, l1, l2⟩
    · exact fl (.inl l)
    · have hl : st1.env.length = st'.env.length := by rw [r1.len, s2.rel.len, wipe_length]
      rcases backE_at hl l1 with ⟨q1, q2⟩ | ⟨q1, q2⟩
      · exact (Lc.there r1 (.inr ⟨j, val, q2, l2⟩)).2 hD
      · exact fl (.inr ⟨j, val, q2, by rw [wipe_at q1]; exact l2⟩)
theorem s_comp {elt : IE} {tg : Tg} {it : II} {cond : IO} {own : List Nat} {elt' tg' it' : Expr} {ifs : List Expr} {pos : Pos} (c : XOk F N S X sc) (hi : SoundI X S it' it) (hb : blkC N sc scope (own.map fun i => (N.getD i "", i)) = true) (htg : mT N scope tg tg' = true)
    (hc : ∀ Y, XOk F N S Y scope → SoundC Y S ifs cond) (he : ∀ Y, XOk F N S Y scope → Sound Y S elt' elt) (hs : setB it' = false) (ht : tupI it tg' = true) (hown : (slotsT tg).all (own.contains ·) = true) :
    Sound X S (.ListComp elt' [⟨tg', it', ifs, 0⟩] scope pos) (.comp elt tg it cond own) := by
  have pe := pe_lc (g := gT X.K tg) (tt := TT' X.K (wpC S cond)) (te := TE' X.K (wpE S elt)) (pos := pos) (own := own.map fun i => (N.getD i "", i)) c.calm (by rw [c.hN]; exact c.nd) (hi tg' ht) (c.blkOk hb) (fun s H C cl fp => pg_of (c.blk s H C cl fp) tg tg' htg) (fun s H C cl fp => hc _ (c.blk s H C cl fp)) (fun s H C cl fp => (he _ (c.blk s H C cl fp)).pe) (fun x => foldOff hs x)
  rw [own_map] at pe
  exact Sound.plain rfl (pe.weak fun σ H Q h => comp_te hown rfl h) rfl
end
end Ev
end

section
set_option Elab.async false
set_option linter.all false
set_option maxRecDepth 100000
/-! Ev18c: comprehensions of two clauses. -/
namespace Ev
open PySem PySem.Spec PyProof.Rows L2
section
variable {F : List String} {N : List Str} {S : SpecK} {X : Cx} {sc scope : Scope}
theorem wipe_in {σ : L2.St} {own own1 : List Nat} (h : ∀ i ∈ own1, i ∈ own) : L2.wipe (L2.wipe σ own1) own = L2.wipe σ own := wipe_eq (fun j n => by rw [wipe_get, if_neg (fun z => n (h j z))]) (wipe_length _ _)
theorem wpCompL_chk {chk : Stt → Prop} {step : PyData → List PyData → (List PyData → Stt → Prop) → Stt → Prop} {done : List PyData → Stt → Prop} {ds acc : List PyData} {st : Stt} (h : wpCompL chk step done ds acc st) : chk st := by
  cases ds with
  | nil => exact h.1
  | cons d ds => exact h.1
theorem ROs.updD {K : PySem.W.Frag} {ρ : List Addr} {env : List (Option EV)} {W : Addr → Prop} {σ : L2.St} {H H0 : Hp} {D : Addr} {q : HO} (hw : W D) (h0 : H0 D ≠ none) {os : List Out} {xs : List V} (h : ROs K ρ env W σ H H0 os xs) : ROs K ρ env W σ (L2.upd H D q) H0 os xs := by
  have pr : Pres W H W (L2.upd H D q) := fun a q w e => ⟨w, by rw [upd_ne (fun z => w (by rw [z]; exact hw))]; exact e⟩
  induction h with
  | nil => exact .nil
  | @cons o x os xs a b c ih =>
    refine .cons ?_ ih c
    obtain ⟨tag, val⟩ := o
    cases tag with
    | frz => exact RVal.pres (K := K) (ρ := ρ) (W := W) (H := H) a pr (List.prefix_refl _)
    | fre =>
      obtain ⟨b, d, e, ex, w, ro, nl, hn⟩ := a
      exact ⟨b, d, e, ex, w, ro.pres pr (upd_ne fun z => h0 (by rw [← z]; exact hn)), nl, hn⟩
    | slot i => exact a
theorem comp2_te {elt : IE} {tg tg1 : Tg} {it it1 : II} {cond cond1 : IO} {own own1 : List Nat} (hown : (slotsT tg).all (own.contains ·) = true) (hown1 : (slotsT tg1).all (own1.contains ·) = true) (hsub : own1.all (own.contains ·) = true) {σ : L2.St} {H : Hp} {Q : VK} {v : PreE} (hv : wpX S (.comp2 elt tg it cond tg1 it1 cond1 own own1) = both v) (h : TE' X.K v σ H Q) :
    tLc2 (TI' X.K (wpI S it)) (gT X.K tg) (TT' X.K (wpC S cond)) (TI' X.K (wpI S it1)) (gT X.K tg1) (TT' X.K (wpC S cond1)) (TE' X.K (wpE S elt)) own own1 σ H Q := by
  have hsub : ∀ i ∈ own1, i ∈ own := fun i hi => by simpa using List.all_eq_true.mp hsub i hi
  have hv := congrArg Prod.fst hv
  have hv : _ = v := hv
  subst hv
  obtain ⟨ρ, st, W, P, r, w, k⟩ := h
  refine ⟨ρ, st, W, _, r, w, fun ds os st1 ρ1 W1 H1 xs J p1 s1 t1 wk D hD => ?_⟩
  have r1 := s1.rel
  have sw := r1.wipe own
  have rw_ := sw.rel
  have tw := t1.wiped r1 (wpCompL_chk p1)
  have gr : Step X.K ρ1 { st1 with env := wipeE own st1.env } W1 (L2.wipe σ own) H1 ρ1 { st1 with env := wipeE own st1.env } (fun a => W1 a ∨ a = D) (L2.wipe σ own) (L2.upd H1 D (.lst [])) :=
    rw_.grow (Ext.upd hD) (fun a w => .inl w) fun a w => w.elim .inl fun z => .inr (by subst z; exact ⟨hD, by rw [upd_same]; simp⟩)
  have fr0 : FreeL ρ1 (wipeE own st1.env) (fun a => W1 a ∨ a = D) (L2.wipe σ own) (L2.upd H1 D (.lst [])) D [] :=
    ⟨.inr rfl, fun l => (Lc.there rw_ l).2 hD, [], upd_same, .nil⟩
  generalize hinner : (fun (d1 : PyData) (K1 : Option PyData → Stt → Prop) (st5 : Stt) => ∃ env1, bindT tg1 d1 (wipeE own1 st5.env) = some env1 ∧
            wpC S cond1 (fun b1 st6 => if b1 then (wpX S elt).1 (fun o st7 => ∃ v, o.val = .dat v ∧ K1 (some v) { frz o st7 with env := wipeE own1 (frz o st7).env }) st6 else K1 none { st6 with env := wipeE own1 st6.env }) { st5 with env := env1 }) = inner at p1
  generalize hstep : (fun (d : PyData) (acc : List PyData) (K : List PyData → Stt → Prop) (st2 : Stt) => ∃ env', bindT tg d (wipeE own st2.env) = some env' ∧
        wpC S cond (fun b st3 => if b then wpI S it1 (fun ds1 os1 st4 => wpComp (okAs os1) inner (fun acc' st8 => K acc' { st8 with env := wipeE own st8.env }) ds1 acc { st4 with env := wipeE own1 st4.env }) st3 else K acc { st3 with env := wipeE own st3.env }) { st2 with env := env' }) = step at p1
  generalize hdone : (fun (acc : List PyData) (st5 : Stt) => P ⟨.fre, .dat (.list acc)⟩ { st5 with env := backE own st1.env st5.env }) = done at p1
  refine ⟨fun i m Hc => m = ds.length - i ∧ i ≤ ds.length ∧ ∃ ρ' st' W' acc, Step X.K ρ1 { st1 with env := wipeE own st1.env } W1 (L2.wipe σ own) H1 ρ' st' W' (L2.wipe σ own) Hc ∧ FreeL ρ' st'.env W' (L2.wipe σ own) Hc D acc ∧ wpCompL (okAs os) step done (ds.drop i) acc st',
    ⟨ds.length, by simp, by omega, ρ1, _, _, [], gr, fr0, by simpa using p1⟩, ?_⟩
  rintro i m Hc ⟨hm, hi, ρ', st', W', acc, s2, fr2, p2⟩
  have our := (ROs.later s2 rw_ tw (wpCompL_chk p2)).our s2.rel
  obtain ⟨w1, w2⟩ := wk i W' Hc s2.rel.s.wn our
  by_cases hlt : i < ds.length
  · obtain ⟨w3, w4⟩ := w2 ds[i] (List.getElem?_eq_getElem hlt)
    rw [List.drop_eq_getElem_cons hlt] at p2
    obtain ⟨chk, p3⟩ := p2
    rw [← hstep] at p3
    obtain ⟨env', hb, p4⟩ := p3
    refine .inr ⟨w3, fun Hc => i + 1 ≤ ds.length ∧ ∃ ρ' st' W' acc, Step X.K ρ1 { st1 with env := wipeE own st1.env } W1 (L2.wipe σ own) H1 ρ' st' W' (L2.wipe σ own) Hc ∧ FreeL ρ' st'.env W' (L2.wipe σ own) Hc D acc ∧ wpCompL (okAs os) step done (ds.drop (i + 1)) acc st',
      fun H' ⟨z1, z2⟩ => ⟨ds.length - (i + 1), by omega, rfl, z1, z2⟩, fun x H' hy => ?_⟩
    obtain ⟨ext, rx⟩ := w4 x H' hy
    have g2 : Step X.K ρ' st' W' (L2.wipe σ own) Hc ρ' st' W' (L2.wipe σ own) H' := s2.rel.grow ext (fun _ w => w) fun _ w => .inl w
    have g3 := g2.trans s2.rel (g2.rel.wipe own)
    rw [wipe_wipe] at g3
    refine gT_of tg ds[i] x { st' with env := wipeE own st'.env } _ env' _ g3.rel rx hb fun σ2 g4 same => ?_
    have ws : L2.wipe σ2 own = L2.wipe σ own := by
      have hl : σ2.length = (L2.wipe σ own).length := by rw [← g4.rel.len, ← g3.rel.len]; exact (bindT_len' hb)
      rw [← wipe_wipe (σ := σ) own]
      refine wipe_eq (fun j hj => same j fun z => hj ?_) hl
      have := List.all_eq_true.mp hown j z
      simpa using this
    have g5 := g3.trans s2.rel g4
    refine ⟨ws, ρ', _, W', _, g4.rel, p4, fun b st3 ρ3 W3 H3 p5 s3 => ?_⟩
    have g6 := g5.trans s2.rel s3
    cases b with
    | false =>
      simp only [Bool.false_eq_true, if_false] at p5 ⊢
      have g7 := g6.trans s2.rel (s3.rel.wipe own)
      rw [ws] at g7
      rw [hstep] at p5
      exact ⟨by omega, ρ3, _, W3, acc, s2.trans rw_ g7, fr2.step g7, p5⟩
    | true =>
      simp only [if_true] at p5 ⊢
      rw [hstep] at p5
      refine ⟨ρ3, st3, W3, _, s3.rel, p5, fun ds1 os1 st4 ρ4 W4 H4 xs1 J1 q1 s4 t4 wk1 => ?_⟩
      have hn3 : H3 D ≠ none := by
        obtain ⟨_, _, zs, e, _⟩ := fr2.step g6
        rw [e]
        simp
      have g7 := g6.trans s2.rel s4
      have r4 := s4.rel
      have sw4 := r4.wipe own1
      have rw4 := sw4.rel
      have tw4 := t4.wiped r4 (wpComp_chk q1)
      have g8 := g7.trans s2.rel sw4
      have fr4 := fr2.step g8
      generalize hdone1 : (fun (acc' : List PyData) (st8 : Stt) => wpCompL (okAs os) step done (ds.drop (i + 1)) acc' { st8 with env := wipeE own st8.env }) = done1 at q1
      refine ⟨fun j m Hc2 => m = ds1.length - j ∧ j ≤ ds1.length ∧ ∃ ρ5 st5 W5 acc5, ROs X.K ρ5 st5.env W5 (L2.wipe σ2 own1) Hc2 H3 os1 xs1 ∧ Step X.K ρ1 { st1 with env := wipeE own st1.env } W1 (L2.wipe σ own) H1 ρ5 st5 W5 (L2.wipe σ2 own1) Hc2 ∧ FreeL ρ5 st5.env W5 (L2.wipe σ2 own1) Hc2 D acc5 ∧ wpComp (okAs os1) inner done1 (ds1.drop j) acc5 st5,
        ⟨ds1.length, by simp, by omega, ρ4, _, W4, acc, tw4, s2.trans rw_ g8, fr4, by simpa using q1⟩, ?_⟩
      rintro j m2 Hc2 ⟨hm2, hj, ρ5, st5, W5, acc5, s5, sB, fr5, q5⟩
      have r5 := sB.rel
      have our1 := s5.our r5
      obtain ⟨v1, v2⟩ := wk1 j W5 Hc2 r5.s.wn our1
      by_cases hlt1 : j < ds1.length
      · obtain ⟨v3, v4⟩ := v2 ds1[j] (List.getElem?_eq_getElem hlt1)
        rw [List.drop_eq_getElem_cons hlt1] at q5
        obtain ⟨chk1, hlen1, q6⟩ := q5
        rw [← hinner] at q6
        obtain ⟨env1, hb1, q7⟩ := q6
        refine .inr ⟨v3, fun Hc2 => j + 1 ≤ ds1.length ∧ ∃ ρ5 st5 W5 acc5, ROs X.K ρ5 st5.env W5 (L2.wipe σ2 own1) Hc2 H3 os1 xs1 ∧ Step X.K ρ1 { st1 with env := wipeE own st1.env } W1 (L2.wipe σ own) H1 ρ5 st5 W5 (L2.wipe σ2 own1) Hc2 ∧ FreeL ρ5 st5.env W5 (L2.wipe σ2 own1) Hc2 D acc5 ∧ wpComp (okAs os1) inner done1 (ds1.drop (j + 1)) acc5 st5,
          fun H' ⟨z1, z2⟩ => ⟨ds1.length - (j + 1), by omega, rfl, z1, z2⟩, fun x1 H5 hy1 => ?_⟩
        obtain ⟨ext1, rx1⟩ := v4 x1 H5 hy1
        have a2 : Step X.K ρ5 st5 W5 (L2.wipe σ2 own1) Hc2 ρ5 st5 W5 (L2.wipe σ2 own1) H5 := r5.grow ext1 (fun _ w => w) fun _ w => .inl w
        have a3 := a2.trans r5 (a2.rel.wipe own1)
        rw [wipe_wipe] at a3
        refine gT_of tg1 ds1[j] x1 { st5 with env := wipeE own1 st5.env } _ env1 _ a3.rel rx1 hb1 fun σ3 a4 same1 => ?_
        have ws1 : L2.wipe σ3 own1 = L2.wipe σ2 own1 := by
          have hl : σ3.length = (L2.wipe σ2 own1).length := by rw [← a4.rel.len, ← a3.rel.len]; exact (bindT_len' hb1)
          rw [← wipe_wipe (σ := σ2) own1]
          refine wipe_eq (fun i hi => same1 i fun z => hi ?_) hl
          have := List.all_eq_true.mp hown1 i z
          simpa using this
        have a5 := a3.trans r5 a4
        refine ⟨ws1, ρ5, _, W5, _, a4.rel, q7, fun b1 st6 ρ6 W6 H6 q8 s6 => ?_⟩
        have a6 := a5.trans r5 s6
        cases b1 with
        | false =>
          simp only [Bool.false_eq_true, if_false] at q8 ⊢
          have a7 := a6.trans r5 (s6.rel.wipe own1)
          rw [ws1] at a7
          rw [hinner] at q8
          exact ⟨by omega, ρ6, _, W6, acc5, ROs.later a7 r5 s5 (wpComp_chk q8), sB.trans rw_ a7, fr5.step a7, q8⟩
        | true =>
          simp only [if_true] at q8 ⊢
          refine ⟨ρ6, st6, W6, _, s6.rel, q8, fun o st7 ρ7 W7 H7 y q9 s7 t7 => ?_⟩
          obtain ⟨v, ev, q10⟩ := q9
          obtain ⟨W8, s8, _, _, fz⟩ := freeze (os := [o]) (xs := [y]) s6.rel s7 (.cons t7 .nil fun _ j o' x' h1 => by simp at h1)
          rw [frz_one] at s8
          obtain ⟨y', hy', rv⟩ := fz 0 o rfl
          simp at hy'
          subst hy'
          rw [ev] at rv
          have a7 := a6.trans r5 s8
          have a8 := a7.trans r5 (s8.rel.wipe own1)
          rw [ws1] at a8
          have f8 := fr5.step a8
          obtain ⟨fw, fl, zs, fe, fa⟩ := f8
          rw [hinner] at q10
          refine ⟨zs, fe, by rw [fa.length]; exact hlen1, by omega, ρ7, _, W8, acc5 ++ [v], ?_, Step.upd rw_ (sB.trans rw_ a8) hD fw fl, ⟨fw, fl, zs ++ [y], upd_same, ?_⟩, q10⟩
          · exact ROs.updD fw hn3 (ROs.later a8 r5 s5 (wpComp_chk q10))
          · have pr : Pres W8 H7 W8 (L2.upd H7 D (.lst (zs ++ [y]))) := fun a q w e => ⟨w, by rw [upd_ne (fun z => w (by rw [z]; exact fw))]; exact e⟩
            exact (fa.app (.cons rv .nil)).pres pr
      · have e : j = ds1.length := by omega
        subst e
        rw [List.drop_length] at q5
        obtain ⟨chk1, q6⟩ := q5
        rw [← hdone1] at q6
        refine .inl ⟨v1 rfl, by omega, ρ5, _, W5, acc5, ?_, ?_, q6⟩
        · have z := sB.trans rw_ (sB.rel.wipe own)
          rw [wipe_in hsub, ws] at z
          exact z
        · have z := fr5.step (sB.rel.wipe own)
          rw [wipe_in hsub, ws] at z
          exact z
  · have e : i = ds.length := by omega
    subst e
    rw [List.drop_length] at p2
    obtain ⟨chk, p3⟩ := p2
    rw [← hdone] at p3
    have bk := r1.back s2
    obtain ⟨fw, fl, zs, fe, fa⟩ := fr2
    refine .inl ⟨w1 rfl, k _ _ _ _ _ _ p3 (s1.trans r bk) ⟨D, _, rfl, rfl, fw, ⟨zs, fe, fa⟩, fun l => ?_, s1.free hD⟩⟩
    rcases l with l | ⟨j, val, l1, l2⟩
    · exact fl (.inl l)
    · have hl : st1.env.length = st'.env.length := by rw [r1.len, s2.rel.len, wipe_length]
      rcases backE_at hl l1 with ⟨q1, q2⟩ | ⟨q1, q2⟩
      · exact (Lc.there r1 (.inr ⟨j, val, q2, l2⟩)).2 hD
      · exact fl (.inr ⟨j, val, q2, by rw [wipe_at q1]; exact l2⟩)
theorem s_comp2 {elt : IE} {tg tg1 : Tg} {it it1 : II} {cond cond1 : IO} {own own1 : List Nat} {elt' tg' it' tg1' it1' : Expr} {ifs ifs1 : List Expr} {pos : Pos} (c : XOk F N S X sc) (hi : SoundI X S it' it) (hb : blkC N sc scope (own.map fun i => (N.getD i "", i)) = true) (htg : mT N scope tg tg' = true)
    (hc : ∀ Y, XOk F N S Y scope → SoundC Y S ifs cond) (hi1 : ∀ Y, XOk F N S Y scope → SoundI Y S it1' it1) (htg1 : mT N scope tg1 tg1' = true) (hc1 : ∀ Y, XOk F N S Y scope → SoundC Y S ifs1 cond1) (he : ∀ Y, XOk F N S Y scope → Sound Y S elt' elt) (hs : setB it' = false) (hs1 : setB it1' = false) (ht : tupI it tg' = true) (ht1 : tupI it1 tg1' = true)
    (hown : (slotsT tg).all (own.contains ·) = true) (hown1 : (slotsT tg1).all (own1.contains ·) = true) (hsub : own1.all (own.contains ·) = true) :
    Sound X S (.ListComp elt' [⟨tg', it', ifs, 0⟩, ⟨tg1', it1', ifs1, 0⟩] scope pos) (.comp2 elt tg it cond tg1 it1 cond1 own own1) := by
  have pe := pe_lc2 (g := gT X.K tg) (tt := TT' X.K (wpC S cond)) (wi1 := TI' X.K (wpI S it1)) (g1 := gT X.K tg1) (tt1 := TT' X.K (wpC S cond1)) (te := TE' X.K (wpE S elt)) (pos := pos) (own := own.map fun i => (N.getD i "", i)) (vs1 := own1) c.calm (by rw [c.hN]; exact c.nd) (hi tg' ht) (c.blkOk hb) (by rw [own_map]; exact fun i hi => by simpa using List.all_eq_true.mp hsub i hi) (fun s H C cl fp => pg_of (c.blk s H C cl fp) tg tg' htg) (fun s H C cl fp => hc _ (c.blk s H C cl fp)) (fun s H C cl fp => hi1 _ (c.blk s H C cl fp) tg1' ht1) (fun s H C cl fp => pg_of (c.blk s H C cl fp) tg1 tg1' htg1) (fun s H C cl fp => hc1 _ (c.blk s H C cl fp)) (fun s H C cl fp => (he _ (c.blk s H C cl fp)).pe) (fun x => foldOff hs x) (fun env x => foldOff hs1 x)
  rw [own_map] at pe
  exact Sound.plain rfl (pe.weak fun σ H Q h => comp2_te hown hown1 hsub rfl h) rfl
end
end Ev
end

section
set_option Elab.async false
set_option linter.all false
set_option maxRecDepth 100000
/-! Ev18d: dicts of one pair, dict comprehensions. -/
namespace Ev
open PySem PySem.Spec PyProof.Rows L2
section
variable {F : List String} {N : List Str} {S : SpecK} {X : Cx} {sc scope : Scope}
def tLst (K : PySem.W.Frag) (ta : TE) : TE := fun σ H Q => ta σ H fun x H1 => ∃ (p : Addr) (ks : List Int), x = .ref p ∧ SqL K H1 p (ks.map V.int) ∧ ks.length ≤ 4000 ∧ Q (.int (ddI ks : Nat)) H1
theorem pe_lst {v : Expr} {tv : TE} {p1 p2 p3 p4 : Pos} (g1 : Gl X "len") (m1 : X.mg "len" = none) (g2 : Gl X "set") (m2 : X.mg "set" = none) (hv : PE X v tv) (cl : X.calm = true)
    (ns : starEach [v] X.env = (false, eval v X.env) :: starEach [] X.env) : PE X (.Call (.Name "len" p1) [.Call (.Name "set" p2) [v] [] p3] [] p4) (tLst X.K tv) := by
  constructor
  intro pins s σ H Q I w
  apply Call_ (ld_blt I g1 m1 boot_len ?_)
  apply PyProof.Rows.callWith_builtin1 (PyProof.Rows.args_cons ?_ rfl) rfl rfl
  apply Call_ (ld_blt I g2 m2 boot_set ?_)
  apply PyProof.Rows.callWith_type1 (PyProof.Rows.args_cons (thn (hv.run pins s σ H _ I w) fun u s1 ⟨x, H1, I1, r1, q1⟩ => PyProof.Rows.args_nil ?_) ns) ns rfl
  obtain ⟨p, ks, rfl, sq, small, q1⟩ := q1
  cases r1
  obtain ⟨us, ru, isl, _⟩ := I1.list sq
  have size : us.toArray.size = ks.length := by have := ru.length; simp only [List.length_map] at this; simp [this]
  apply call_set_list (I1.ok.hd cl) isl.isList (ns := ks) (by simpa using ru.ints) (by unfold scanBound; omega)
  intro h2 tk made keeps
  rw [size] at made
  apply PyProof.Rows.args_nil
  obtain ⟨o, es, ep, t, f1, f2, f3, _, _, _, f4, f5⟩ := made
  have small2 : (PyProof.Rows.firstMet (fun i => ks.getD i 0) ks.length).length ≤ 4000 := Nat.le_trans (PyProof.Rows.firstMet_length_le _ _) small
  have I2 : Inv X pins σ H1 { s1 with heap := h2, toks := tk } := I1.kept fun b o g => keeps b o (Heap.lt_size g) g
  exact call_len_set f1 f2 f3 f4 (by rw [f5] <;> omega) ⟨.int (ddI ks : Nat), H1, I2.tok _, ⟨_, by rw [f5]; rfl⟩, q1⟩
theorem s_lset {e : IE} {v : Expr} {x y : Str} {p1 p2 p3 p4 : Pos} (c : XOk F N S X sc) (hx : x = "len") (hy : y = "set") (g1 : glB sc x = true) (g2 : glB sc y = true) (he : Sound X S v e) (hs : starB v = false) :
    Sound X S (.Call (.Name x p1) [.Call (.Name y p2) [v] [] p3] [] p4) (.lset e) := by
  subst hx hy
  refine Sound.plain rfl ((pe_lst (c.glOk g1) (c.blt _ (by decide)) (c.glOk g2) (c.blt _ (by decide)) he.pe c.calm (notStar hs _ _)).weak fun σ H Q h => ?_) rfl
  obtain ⟨ρ, st, W, P, r, w, k⟩ := h
  refine ⟨ρ, st, W, _, r, w, fun o st1 ρ1 W1 H1 z p1 s1 t1 => ?_⟩
  obtain ⟨ns, e1, small, q⟩ := p1
  obtain ⟨a, xs, rfl, ha, ra⟩ := t1.read s1.rel e1
  rw [ra.ints_of] at ha
  exact ⟨a, ns, rfl, SqL.of ha, small, k _ _ _ _ _ _ q s1 (R.int _)⟩
theorem s_dct1 {k v : IE} {k' v' : Expr} {pos : Pos} (hk : Sound X S k' k) (hv : Sound X S v' v) : Sound X S (.Dict [some k'] [v'] pos) (.dct1 k v) := by
  have ps := pps_cons (pos := pos) hk.pe hv.pe pps_nil
  refine Sound.plain rfl ((pe_disp ps rfl rfl (by simp) (by simp)).weak fun σ H Q hw => ?_) rfl
  obtain ⟨ρ, st, W, P, r, w, kk⟩ := hw
  intro b hb
  have gr := r.grow (W' := fun c => W c ∨ c = b) (Ext.upd (o := HO.dK []) hb) (fun c w => .inl w) (fun c w => w.elim .inl fun z => .inr (by subst z; exact ⟨hb, by rw [upd_same]; simp⟩))
  have nb : ¬ Lc ρ st.env σ b := fun l => (Lc.there r l).2 hb
  refine ⟨ρ, st, _, _, gr.rel, w, fun o1 st1 ρ1 W1 H1 x p1 s1 t1 => ?_⟩
  obtain ⟨n, en, p1⟩ := p1
  obtain rfl := t1.toInt s1.rel en
  have g1 := gr.trans r s1
  refine ⟨ρ1, st1, W1, _, s1.rel, p1, fun o2 st2 ρ2 W2 H2 y p2 s2 t2 => ?_⟩
  obtain ⟨d, ed, q⟩ := p2
  obtain ⟨W5, s5, _, hW5, fz⟩ := freeze (os := [o2]) (xs := [y]) s1.rel s2 (.cons t2 .nil fun _ j o' x' h1 => by simp at h1)
  rw [frz_one] at s5
  obtain ⟨y', hy', rv⟩ := fz 0 o2 rfl
  simp at hy'
  subst hy'
  rw [ed] at rv
  have g5 := g1.trans r s5
  have sb := s1.trans gr.rel s5
  obtain ⟨wb, eb⟩ := sb.fr.hold b (.inr rfl) nb
  rw [upd_same] at eb
  have nl : ¬ Lc ρ2 (frz o2 st2).env σ b := fun l => by
    rcases sb.sub b l with z | z
    · exact nb z
    · rw [upd_same] at z; cases z
  refine ⟨eb, [(Sum.inl n, y)], rfl, by simp, ?_⟩
  refine kk _ _ _ _ _ _ q (Step.upd r g5 hb wb nl) ⟨b, _, rfl, rfl, wb, .inl ⟨[(Sum.inl n, y)], upd_same, rfl, .cons ?_ .nil⟩, nl, hb⟩
  have rv : R W5 H2 y d := rv
  exact rv.pres fun a q w e => ⟨w, by rw [upd_ne (fun z => w (by rw [z]; exact wb))]; exact e⟩
def FreeD (ρ : List Addr) (env : List (Option EV)) (W : Addr → Prop) (σ : L2.St) (H : Hp) (D : Addr) (acc : List (PyData × PyData)) : Prop := W D ∧ ¬ Lc ρ env σ D ∧ ∃ kvs : List (Key × V), H D = some (.dK kvs) ∧ kvs.map (fun p => keyD p.1) = acc.map (·.1) ∧ RA W H (kvs.map (·.2)) (acc.map (·.2))
theorem FreeD.step {K : PySem.W.Frag} {ρ ρ' : List Addr} {st st' : Stt} {W W' : Addr → Prop} {σ σ' : L2.St} {H H' : Hp} {D : Addr} {acc : List (PyData × PyData)} (h : FreeD ρ st.env W σ H D acc) (s : Step K ρ st W σ H ρ' st' W' σ' H') : FreeD ρ' st'.env W' σ' H' D acc := by
  obtain ⟨w, l, kvs, e, hk, ra⟩ := h
  obtain ⟨w', e'⟩ := s.fr.hold D w l
  refine ⟨w', fun z => ?_, kvs, e'.trans e, hk, ra.pres s.fr.keep⟩
  rcases s.sub D z with q | q
  · exact l q
  · rw [e] at q; cases q
theorem wpFold_chk {A : Type} {chk : Stt → Prop} {step : PyData → A → (A → Stt → Prop) → Stt → Prop} {done : A → Stt → Prop} {ds : List PyData} {acc : A} {st : Stt} (h : wpFold chk step done ds acc st) : chk st := by
  cases ds with
  | nil => exact h.1
  | cons d ds => exact h.1
theorem dcp_te {kx vx : IE} {tg : Tg} {it : II} {cond : IO} {own : List Nat} (hown : (slotsT tg).all (own.contains ·) = true) {σ : L2.St} {H : Hp} {Q : VK} {v : PreE} (hv : wpX S (.dcp kx vx tg it cond own) = both v) (h : TE' X.K v σ H Q) :
    tDc (TI' X.K (wpI S it)) (gT X.K tg) (TT' X.K (wpC S cond)) (TE' X.K (wpE S kx)) (TE' X.K (wpE S vx)) own σ H Q := by
  have hv := congrArg Prod.fst hv
  have hv : _ = v := hv
  subst hv
  obtain ⟨ρ, st, W, P, r, w, k⟩ := h
  refine ⟨ρ, st, W, _, r, w, fun ds os st1 ρ1 W1 H1 xs J p1 s1 t1 wk D hD => ?_⟩
  have r1 := s1.rel
  have sw := r1.wipe own
  have rw_ := sw.rel
  have tw := t1.wiped r1 (wpFold_chk p1)
  have gr : Step X.K ρ1 { st1 with env := wipeE own st1.env } W1 (L2.wipe σ own) H1 ρ1 { st1 with env := wipeE own st1.env } (fun a => W1 a ∨ a = D) (L2.wipe σ own) (L2.upd H1 D (.dK [])) :=
    rw_.grow (Ext.upd hD) (fun a w => .inl w) fun a w => w.elim .inl fun z => .inr (by subst z; exact ⟨hD, by rw [upd_same]; simp⟩)
  have fr0 : FreeD ρ1 (wipeE own st1.env) (fun a => W1 a ∨ a = D) (L2.wipe σ own) (L2.upd H1 D (.dK [])) D [] :=
    ⟨.inr rfl, fun l => (Lc.there rw_ l).2 hD, [], upd_same, rfl, .nil⟩
  generalize hstep : (fun (d : PyData) (acc : List (PyData × PyData)) (K : List (PyData × PyData) → Stt → Prop) (st2 : Stt) => ∃ env', bindT tg d (wipeE own st2.env) = some env' ∧
        wpC S cond (fun b st3 => if b then (wpX S kx).1 (fun ok st4 => ∃ n, ok.val = .dat (.int n) ∧ acc.length < SL ∧ (wpX S vx).1 (fun o st5 => ∃ v, o.val = .dat v ∧ K (putD (.int n) v acc) { frz o st5 with env := wipeE own (frz o st5).env }) st4) st3 else K acc { st3 with env := wipeE own st3.env }) { st2 with env := env' }) = step at p1
  generalize hdone : (fun (acc : List (PyData × PyData)) (st5 : Stt) => P ⟨.fre, .dat (.dict acc)⟩ { st5 with env := backE own st1.env st5.env }) = done at p1
  refine ⟨fun i m Hc => m = ds.length - i ∧ i ≤ ds.length ∧ ∃ ρ' st' W' acc, Step X.K ρ1 { st1 with env := wipeE own st1.env } W1 (L2.wipe σ own) H1 ρ' st' W' (L2.wipe σ own) Hc ∧ FreeD ρ' st'.env W' (L2.wipe σ own) Hc D acc ∧ wpFold (okAs os) step done (ds.drop i) acc st',
    ⟨ds.length, by simp, by omega, ρ1, _, _, [], gr, fr0, by simpa using p1⟩, ?_⟩
  rintro i m Hc ⟨hm, hi, ρ', st', W', acc, s2, fr2, p2⟩
  have our := (ROs.later s2 rw_ tw (wpFold_chk p2)).our s2.rel
  obtain ⟨w1, w2⟩ := wk i W' Hc s2.rel.s.wn our
  by_cases hlt : i < ds.length
  · obtain ⟨w3, w4⟩ := w2 ds[i] (List.getElem?_eq_getElem hlt)
    rw [List.drop_eq_getElem_cons hlt] at p2
    obtain ⟨chk, p3⟩ := p2
    rw [← hstep] at p3
    obtain ⟨env', hb, p4⟩ := p3
    refine .inr ⟨w3, fun Hc => i + 1 ≤ ds.length ∧ ∃ ρ' st' W' acc, Step X.K ρ1 { st1 with env := wipeE own st1.env } W1 (L2.wipe σ own) H1 ρ' st' W' (L2.wipe σ own) Hc ∧ FreeD ρ' st'.env W' (L2.wipe σ own) Hc D acc ∧ wpFold (okAs os) step done (ds.drop (i + 1)) acc st',
      fun H' ⟨z1, z2⟩ => ⟨ds.length - (i + 1), by omega, rfl, z1, z2⟩, fun x H' hy => ?_⟩
    obtain ⟨ext, rx⟩ := w4 x H' hy
    have g2 : Step X.K ρ' st' W' (L2.wipe σ own) Hc ρ' st' W' (L2.wipe σ own) H' := s2.rel.grow ext (fun _ w => w) fun _ w => .inl w
    have g3 := g2.trans s2.rel (g2.rel.wipe own)
    rw [wipe_wipe] at g3
    refine gT_of tg ds[i] x { st' with env := wipeE own st'.env } _ env' _ g3.rel rx hb fun σ2 g4 same => ?_
    have ws : L2.wipe σ2 own = L2.wipe σ own := by
      have hl : σ2.length = (L2.wipe σ own).length := by rw [← g4.rel.len, ← g3.rel.len]; exact (bindT_len' hb)
      rw [← wipe_wipe (σ := σ) own]
      refine wipe_eq (fun j hj => same j fun z => hj ?_) hl
      have := List.all_eq_true.mp hown j z
      simpa using this
    have g5 := g3.trans s2.rel g4
    refine ⟨ws, ρ', _, W', _, g4.rel, p4, fun b st3 ρ3 W3 H3 p5 s3 => ?_⟩
    have g6 := g5.trans s2.rel s3
    cases b with
    | false =>
      simp only [Bool.false_eq_true, if_false] at p5 ⊢
      have g7 := g6.trans s2.rel (s3.rel.wipe own)
      rw [ws] at g7
      rw [hstep] at p5
      exact ⟨by omega, ρ3, _, W3, acc, s2.trans rw_ g7, fr2.step g7, p5⟩
    | true =>
      simp only [if_true] at p5 ⊢
      refine ⟨ρ3, st3, W3, _, s3.rel, p5, fun ok st4 ρ4 W4 H4 yk q4 s4 t4 => ?_⟩
      obtain ⟨n, en, hlen, q4⟩ := q4
      obtain rfl := t4.toInt s4.rel en
      have g6' := g6.trans s2.rel s4
      refine ⟨ρ4, st4, W4, _, s4.rel, q4, fun o st5 ρ5 W5 H5 y p6 s5 t5 => ?_⟩
      obtain ⟨v, ev, p7⟩ := p6
      obtain ⟨W6, s6, _, _, fz⟩ := freeze (os := [o]) (xs := [y]) s4.rel s5 (.cons t5 .nil fun _ j o' x' h1 => by simp at h1)
      rw [frz_one] at s6
      obtain ⟨y', hy', rv⟩ := fz 0 o rfl
      simp at hy'
      subst hy'
      rw [ev] at rv
      have g7 := g6'.trans s2.rel s6
      have g8 := g7.trans s2.rel (s6.rel.wipe own)
      rw [ws] at g8
      have f8 := fr2.step g8
      obtain ⟨fw, fl, kvs, fe, fk, fa⟩ := f8
      rw [hstep] at p7
      have hkl : kvs.length = acc.length := by
        have := congrArg List.length fk
        simpa using this
      have rv : R W6 H5 y v := rv
      obtain ⟨pk, pa⟩ := put_gen keyD keyEq_keyD (k := Sum.inl n) rv fk fa
      refine ⟨kvs, Sum.inl n, rfl, fe, by rw [hkl]; exact hlen, by omega, ρ5, _, W6, putD (.int n) v acc, Step.upd rw_ (s2.trans rw_ g8) hD fw fl, ⟨fw, fl, _, upd_same, pk, ?_⟩, p7⟩
      exact pa.pres fun a q w e => ⟨w, by rw [upd_ne (fun z => w (by rw [z]; exact fw))]; exact e⟩
  · have e : i = ds.length := by omega
    subst e
    rw [List.drop_length] at p2
    obtain ⟨chk, p3⟩ := p2
    rw [← hdone] at p3
    have bk := r1.back s2
    obtain ⟨fw, fl, kvs, fe, fk, fa⟩ := fr2
    refine .inl ⟨w1 rfl, k _ _ _ _ _ _ p3 (s1.trans r bk) ⟨D, _, rfl, rfl, fw, .inl ⟨kvs, fe, fk, fa⟩, fun l => ?_, s1.free hD⟩⟩
    rcases l with l | ⟨j, val, l1, l2⟩
    · exact fl (.inl l)
    · have hl : st1.env.length = st'.env.length := by rw [r1.len, s2.rel.len, wipe_length]
      rcases backE_at hl l1 with ⟨q1, q2⟩ | ⟨q1, q2⟩
      · exact (Lc.there r1 (.inr ⟨j, val, q2, l2⟩)).2 hD
      · exact fl (.inr ⟨j, val, q2, by rw [wipe_at q1]; exact l2⟩)
theorem s_dcp {kx vx : IE} {tg : Tg} {it : II} {cond : IO} {own : List Nat} {kx' vx' tg' it' : Expr} {ifs : List Expr} {pos : Pos} (c : XOk F N S X sc) (hi : SoundI X S it' it) (hb : blkC N sc scope (own.map fun i => (N.getD i "", i)) = true) (htg : mT N scope tg tg' = true)
    (hc : ∀ Y, XOk F N S Y scope → SoundC Y S ifs cond) (hk : ∀ Y, XOk F N S Y scope → Sound Y S kx' kx) (he : ∀ Y, XOk F N S Y scope → Sound Y S vx' vx) (hs : setB it' = false) (ht : tupI it tg' = true) (hown : (slotsT tg).all (own.contains ·) = true) :
    Sound X S (.DictComp kx' vx' [⟨tg', it', ifs, 0⟩] scope pos) (.dcp kx vx tg it cond own) := by
  have pe := pe_dc (g := gT X.K tg) (tt := TT' X.K (wpC S cond)) (tk := TE' X.K (wpE S kx)) (tv := TE' X.K (wpE S vx)) (pos := pos) (own := own.map fun i => (N.getD i "", i)) c.calm (by rw [c.hN]; exact c.nd) (hi tg' ht) (c.blkOk hb) (fun s H C cl fp => pg_of (c.blk s H C cl fp) tg tg' htg) (fun s H C cl fp => hc _ (c.blk s H C cl fp)) (fun s H C cl fp => (hk _ (c.blk s H C cl fp)).pe) (fun s H C cl fp => (he _ (c.blk s H C cl fp)).pe) (fun x => foldOff hs x)
  rw [own_map] at pe
  exact Sound.plain rfl (pe.weak fun σ H Q h => dcp_te hown rfl h) rfl
/-- a dict comprehension whose dict a name takes at once -/
theorem ps_takesDc {i : Nat} {y : Str} {py : Pos} {kx vx tg it : Expr} {ifs : List Expr} {own : List (Str × Nat)} {cpos spos : Pos} {wi : TI} {g : TG} {tt : TT} {tk tv : TE} (calm : X.calm = true) (nd : X.N.Nodup) (hy : X.N[i]? = some y) (hl : X.env.scope.names.lookup y = some .local)
    (sw : swapsWith (.DictComp kx vx [⟨tg, it, ifs, 0⟩] scope cpos) (some (.Name y py)) spos.line X.env = pure true) (pi : PI X tg it wi) (ok : BlkOk X.N X.env.scope scope own)
    (pg : ∀ (s : Shared) (H : Hp) (C : Addr) (cl : List (Str × Addr)) (fp : List Addr), PG (X.blk s H scope (compEnvC scope cl C X.env) fp) tg g)
    (pt : ∀ (s : Shared) (H : Hp) (C : Addr) (cl : List (Str × Addr)) (fp : List Addr), PTs (X.blk s H scope (compEnvC scope cl C X.env) fp) ifs tt)
    (pk : ∀ (s : Shared) (H : Hp) (C : Addr) (cl : List (Str × Addr)) (fp : List Addr), PE (X.blk s H scope (compEnvC scope cl C X.env) fp) kx tk)
    (pv : ∀ (s : Shared) (H : Hp) (C : Addr) (cl : List (Str × Addr)) (fp : List Addr), PE (X.blk s H scope (compEnvC scope cl C X.env) fp) vx tv)
    (off : ∀ x, foldedSetIterable it X.env x = pure x) :
    PS X (.Assign [.Name y py] (.DictComp kx vx [⟨tg, it, ifs, 0⟩] scope cpos) spos) (tAsg (tDc wi g tt tk tv (own.map (·.2))) (gName i)) := ⟨fun pins s σ H D I h => by
  have hw : tDc wi g tt tk tv (own.map (·.2)) σ H (fun x H1 => gName i x σ H1 D.nx) := h
  rw [exec_Assign_Name_used _ _ _ _ sw]
  refine wpAny_bind (wpAny_standAt (wpAny_bind (wpAny_bind (thn (dc_core (Qf := fun _ s' => SP X pins D .next s') (use := some (assign (.Name y py) X.env)) calm nd I pi ok pg pt pk pv off hw fun A C s1 m H1 I1 q hn f => ?_) fun _ s1 hq => wpAny_pure (wpAny_pure hq)))))
  refine wpAny_assign_Name (store_ok2 (v := V.ref A) I1 nd hy (.inl hl) rfl (fun s2 I2 ⟨a, sb, ha⟩ => ?_) (.inr hl))
  obtain ⟨j0, j1, _, j3, j4, j5⟩ := f
  have ne : C ≠ a := ha.elim (fun z => z ▸ j1) fun z e => j4 y a z e.symm
  exact ⟨m, hn.sameBut sb ne, fun h3 sb3 => ⟨_, H1, I2.turned (t' := s2.toks) (fun b o hb e => (sb3.2 b hb).trans e) j0 j1 j3 j4 j5, q⟩⟩⟩
end
end Ev
end

section
set_option Elab.async false
set_option linter.all false
set_option maxRecDepth 100000
/-! Ev18s: set comprehensions of ints: how many, sorted. -/
namespace Ev
open PySem PySem.Spec PyProof.Rows L2 PpSet
section
variable {F : List String} {N : List Str} {S : SpecK} {X : Cx} {sc scope : Scope}
/-- {elt for tg in it if ..}: what each member does is set.add's to say -/
def tSci (w : World) (wi : TI) (g : TG) (tt : TT) (te : TE) (vs : List Nat) : TE := fun σ H Q => wi σ H fun J H1 => ∀ D, H1 D = none → ∃ W : Nat → Nat → Hp → Prop, (∃ m, W 0 m (L2.upd H1 D (SetO w D (fun _ => false) 0))) ∧ ∀ i m H, W i m H →
  (J.stop i H ∧ Q (.ref D) H) ∨ (J.go i H ∧ ∃ Nx : Hp → Prop, (∀ H', Nx H' → ∃ m', m' < m ∧ W (i + 1) m' H') ∧ ∀ x H', J.yld i H x H' → g x (L2.wipe σ vs) H' fun σ2 H2 => L2.wipe σ2 vs = L2.wipe σ vs ∧ tt σ2 H2 fun b H3 =>
    if b = true then te σ2 H3 fun y H4 => rSAdd w (.ref D) [y] H4 (fun _ H5 => Nx H5) else Nx H3)
theorem pe_sci {elt tg it : Expr} {ifs : List Expr} {own : List (Str × Nat)} {pos : Pos} {wi : TI} {g : TG} {tt : TT} {te : TE} (calm : X.calm = true) (nd : X.N.Nodup) (pi : PI X tg it wi) (ok : BlkOk X.N X.env.scope scope own)
    (pg : ∀ (s : Shared) (H : Hp) (C : Addr) (cl : List (Str × Addr)) (fp : List Addr), PG (X.blk s H scope (compEnvC scope cl C X.env) fp) tg g)
    (pt : ∀ (s : Shared) (H : Hp) (C : Addr) (cl : List (Str × Addr)) (fp : List Addr), PTs (X.blk s H scope (compEnvC scope cl C X.env) fp) ifs tt)
    (pv : ∀ (s : Shared) (H : Hp) (C : Addr) (cl : List (Str × Addr)) (fp : List Addr), PE (X.blk s H scope (compEnvC scope cl C X.env) fp) elt te)
    (off : ∀ x, foldedSetIterable it X.env x = pure x) : PE X (.SetComp elt [⟨tg, it, ifs, 0⟩] scope pos) (tSci X.w wi g tt te (own.map (·.2))) := by
  refine ⟨fun pins s σ H Q I h => ?_⟩
  have free : ∀ y ∈ scope.names, y.2 = .free → ∃ c, X.env.cells.lookup y.1 = some c := fun y hy e => (ok.free y hy e).elim (fun k => I.ok.has _ (.inl k)) fun k => I.ok.has _ (.inr k)
  rw [eval_SetComp]
  refine wpAny_comprehension_free (use := none) rfl off (closure_ok free) ok.kind (fun y hy e => by rw [ok.uniq y hy, e])
    (thn (pi.run pins s σ H _ I h) fun _ _ hx => thn hx fun _ sA ⟨itA, fp, tn, J, HA, eA, IA, T, stA, fA, q⟩ => ?_)
  subst eA
  refine newSet_ok (newEnv_comp ?_)
  obtain ⟨D, hD⟩ : ∃ D, sA.heap.objs.size = D := ⟨_, rfl⟩
  rw [hD]
  obtain ⟨W, ⟨m0, w0⟩, turn⟩ := q D (IA.hok.fresh (Nat.le_of_eq hD))
  obtain ⟨sB, hB⟩ : ∃ sB : Shared, sB = { sA with heap := sA.heap.push { cls := .type "set", dict := none, data := .set #[] 0 (.fresh 0 0 (!X.w.params.followText "set-order")) } } := ⟨_, rfl⟩
  obtain ⟨HB, hHB⟩ : ∃ HB, HB = L2.upd HA D (SetO X.w D (fun _ => false) 0) := ⟨_, rfl⟩
  have IB : Inv X pins σ HB sB := by
    subst hB hHB hD
    exact IA.laid (t' := sA.toks) (fun _ _ e => Heap.get?_push_of_some _ e) (Nat.le_refl _) (setO_new (setR_fresh X.w))
  have keepB : ∀ b o, sA.heap.get? b = some o → sB.heap.get? b = some o := fun b o e => by rw [hB]; exact Heap.get?_push_of_some _ e
  have small : ∀ b ∈ fp, b < sA.heap.objs.size := fun b hb => by
    obtain ⟨_, e, _⟩ := T.obj _ _ stA b hb
    exact Heap.lt_size e
  have fB : ∀ b ∈ fp, FpOk X pins HB b ∧ b < sB.heap.objs.size := fun b hb => by
    have lt := small b hb
    refine ⟨⟨?_, (fA b hb).2⟩, by rw [hB]; show _ < (Heap.push _ _).objs.size; rw [Heap.size_push]; exact Nat.lt_succ_of_lt lt⟩
    rw [hHB, upd_ne (Nat.ne_of_lt (hD ▸ lt))]
    exact (fA b hb).1
  have stB : tn 0 sB.heap := T.keep _ _ _ stA fun b _ o e => keepB b o e
  rw [← hHB] at w0
  rw [show ({ sA with heap := sA.heap.push { cls := .type "set", dict := none, data := .set #[] 0 (.fresh 0 0 (!X.w.params.followText "set-order")) } } : Shared) = sB from hB.symm]
  have blk := block_start IB ok nd fB
  have runG := pg sB HB sB.heap.objs.size (cellsFrom (sB.heap.objs.size + 1) scope.names (cloFrom X.env.cells scope.names [])) fp
  have runT := pt sB HB sB.heap.objs.size (cellsFrom (sB.heap.objs.size + 1) scope.names (cloFrom X.env.cells scope.names [])) fp
  have runV := pv sB HB sB.heap.objs.size (cellsFrom (sB.heap.objs.size + 1) scope.names (cloFrom X.env.cells scope.names [])) fp
  show codeAny _ _ (.compStart (.SetComp elt [⟨tg, it, ifs, 0⟩] scope pos) 0 (.ref itA) (.ref D) (compEnvC scope (cellsFrom (sB.heap.objs.size + 1) scope.names (cloFrom X.env.cells scope.names [])) sB.heap.objs.size X.env)) (compPost (model X.prog X.w) X.A X.xe none _ (.ref D) sB.heap.objs.size) { sB with heap := pushCells (sB.heap.push { cls := .type "dict", data := .dict #[] }) scope.names }
  have none1 : ∀ b ∈ fp, HB b = none := fun b hb => (fB b hb).1.1
  generalize hce : compEnvC scope (cellsFrom (sB.heap.objs.size + 1) scope.names (cloFrom X.env.cells scope.names [])) sB.heap.objs.size X.env = ce at blk runG runT runV ⊢
  have loc : ce.locals = sB.heap.objs.size := by rw [← hce]; rfl
  obtain ⟨sC, hC⟩ : ∃ sC : Shared, sC = { sB with heap := pushCells (sB.heap.push { cls := .type "dict", data := .dict #[] }) scope.names } := ⟨_, rfl⟩
  rw [← hC] at blk ⊢
  have stC : tn 0 sC.heap := T.keep _ _ _ stB fun b _ o e => by rw [hC]; exact pushCells_keeps _ _ _ _ (Heap.get?_push_of_some _ e)
  have fpo : ∀ {σ' : L2.St} {H' : Hp} {s' : Shared}, Inv (X.blk sB HB scope ce fp) [] σ' H' s' → (∀ b ∈ fp, H' b = none) → ∀ b ∈ fp, FpOk (X.blk sB HB scope ce fp) [] H' b := fun {σ' H' s'} I' no b hb =>
    ⟨no b hb, (I'.ok.exf b hb).1, I'.ok.exfs b hb, .inl hb, fun x c e => (I'.ok.exf b hb).2 x c e, fun p hp => absurd (show p ∈ ([] : List (Addr × Obj)) ++ [] from hp) (by simp)⟩
  have loop : codeAny (model X.prog X.w) X.A (.compLoop (.SetComp elt [⟨tg, it, ifs, 0⟩] scope pos) 0 (.ref itA) (.ref D) ce) (compPost (model X.prog X.w) X.A X.xe none (EP X pins σ Q) (.ref D) sB.heap.objs.size) sC := by
    refine compLoopS_any (fun n s' => ∃ i H', Inv (X.blk sB HB scope ce fp) [] (L2.wipe σ (own.map (·.2))) H' s' ∧ tn i s'.heap ∧ (∀ b ∈ fp, H' b = none) ∧ W i n H') ?_ m0 ⟨0, HB, blk, stC, none1, w0⟩
    rintro n sE ⟨i, HE, IE, stE, noE, wE⟩
    rcases turn i n HE wE with ⟨stop, qq⟩ | ⟨go, Nx, next, step⟩
    · refine thnF (T.done (X.blk sB HB scope ce fp) rfl rfl rfl calm i [] sE _ HE (fun _ _ => False) IE (fpo IE noE) stE stop) fun r sF ⟨hr, IF⟩ => ?_
      subst hr
      have back : Inv X pins σ HE sF := IB.call' (ch := fp) IF.os IF.base IF.hok IF.bare fun b hb => ⟨(fB b hb).1.2.2.2.1, (fB b hb).1.2.1, (fB b hb).1.2.2.2.2.1, (fB b hb).1.2.2.2.2.2⟩
      have gone : HE ce.locals = none := IF.free
      obtain ⟨m, hn, _⟩ := IF.loc
      have hn : sF.heap.Ns ce.locals m := hn
      rw [loc] at gone hn
      obtain ⟨j0, j1, _, j3, j4, j5⟩ := IB.fpOk (Nat.le_refl _) gone
      exact ⟨m, hn, fun h2 sb => ⟨.ref D, HE, back.turned (t' := sF.toks) (fun b o hb e => (sb.2 b hb).trans e) j0 j1 j3 j4 j5, rfl, qq⟩⟩
    · refine thnF (T.item (X.blk sB HB scope ce fp) rfl rfl rfl calm i [] sE _ HE (fun _ _ => False) IE (fpo IE noE) stE go) fun r sF ⟨u, hr, hF⟩ => ?_
      subst hr
      refine thnF hF fun _ sG ⟨x, HG, IG, rG, yG, stG, noG⟩ => ?_
      have IG' := IG.pinned (fpo IG noG) (T.obj _ _ stG)
      refine thnF (runG.run _ sG _ HG x u _ IG' rG (step x HG yG)) fun _ sH ⟨σH, HH, IH, wH, qH⟩ => ?_
      refine thnF (runT.run _ sH σH HH _ IH qH) fun b sJ ⟨HJ, IJ, qJ⟩ => ?_
      have fin : ∀ {s' : Shared} {H' : Hp}, Inv (X.blk sB HB scope ce fp) ([] ++ pinsAt fp sG.heap) σH H' s' → Nx H' → ∃ m, m < n ∧ ∃ i H', Inv (X.blk sB HB scope ce fp) [] (L2.wipe σ (own.map (·.2))) H' s' ∧ tn i s'.heap ∧ (∀ b ∈ fp, H' b = none) ∧ W i m H' := fun {s' H'} I' nx => by
        obtain ⟨m', hm, w'⟩ := next H' nx
        have kept : ∀ b ∈ fp, ∀ o, sG.heap.get? b = some o → s'.heap.get? b = some o ∧ H' b = none := fun b hb o e =>
          ⟨(I'.pin (b, o) (List.mem_append_right _ (List.mem_append_right _ (mem_pinsAt hb e)))).1, (I'.pin (b, o) (List.mem_append_right _ (List.mem_append_right _ (mem_pinsAt hb e)))).2.1⟩
        have hl : (L2.wipe σ (own.map (·.2))).length = σH.length := by rw [← wH, wipe_length]
        refine ⟨m', hm, i + 1, H', (I'.unpinned (pins := [])).weak hl (fun j v e => ?_), T.keep _ _ _ stG fun b hb o e => (kept b hb o e).1, fun b hb => ?_, w'⟩
        · rw [← wH] at e
          exact (wipe_some e).1
        · obtain ⟨o, e, _⟩ := T.obj _ _ stG b hb
          exact (kept b hb o e).2
      cases b with
      | false =>
        rw [if_neg (by simp)] at qJ
        rw [if_neg (by simp)]
        exact fin IJ qJ
      | true =>
        rw [if_pos rfl] at qJ
        rw [if_pos rfl]
        refine thnF (runV.run _ sJ σH HJ _ IJ qJ) fun z sK ⟨yv, HK, IK, rK, add⟩ => ?_
        refine thnF (mt_sadd (X := X.blk sB HB scope ce fp) _ sK σH HK (.ref D) [yv] (.ref D) [z] _ IK rfl (.cons rK .nil) add) fun _ sL ⟨_, HL, IL, _, nx⟩ => ?_
        exact fin IL nx
  exact codeAny_compStart_set loop (T.self X.A 0 _ _ _ stC loop)
theorem nub_add (l : List Int) (x : Int) : nubI (l ++ [x]) = if x ∈ nubI l then nubI l else nubI l ++ [x] := by
  unfold nubI
  rw [List.foldl_append]
  rfl
theorem nub_mem {x : Int} : ∀ l : List Int, x ∈ nubI l ↔ x ∈ l := by
  have : ∀ (l r : List Int), x ∈ l.foldl (fun r y => if y ∈ r then r else r ++ [y]) r ↔ x ∈ r ∨ x ∈ l := by
    intro l
    induction l with
    | nil => intro r; simp
    | cons y l ih =>
      intro r
      rw [List.foldl_cons, ih]
      by_cases h : y ∈ r
      · rw [if_pos h, List.mem_cons]
        constructor
        · rintro (q | q)
          · exact .inl q
          · exact .inr (.inr q)
        · rintro (q | rfl | q)
          · exact .inl q
          · exact .inl h
          · exact .inr q
      · rw [if_neg h, List.mem_append, List.mem_singleton, List.mem_cons, or_assoc]
  intro l
  unfold nubI
  rw [this]
  simp
theorem nub_nd (l : List Int) : (nubI l).Nodup := by
  have : ∀ (l r : List Int), r.Nodup → (l.foldl (fun r y => if y ∈ r then r else r ++ [y]) r).Nodup := by
    intro l
    induction l with
    | nil => intro r h; exact h
    | cons y l ih =>
      intro r h
      rw [List.foldl_cons]
      refine ih _ ?_
      by_cases hy : y ∈ r
      · rw [if_pos hy]; exact h
      · rw [if_neg hy]
        refine List.nodup_append.mpr ⟨h, by simp, fun a ha b hb => ?_⟩
        simp at hb
        subst hb
        exact fun e => hy (e ▸ ha)
  exact this l [] List.nodup_nil
theorem nub_le (l : List Int) : (nubI l).length ≤ l.length := by
  have : ∀ (l r : List Int), (l.foldl (fun r y => if y ∈ r then r else r ++ [y]) r).length ≤ r.length + l.length := by
    intro l
    induction l with
    | nil => intro r; simp
    | cons y l ih =>
      intro r
      rw [List.foldl_cons]
      refine Nat.le_trans (ih _) ?_
      split <;> simp <;> omega
  have := this l []
  unfold nubI
  simpa using this
theorem lt_uniq : ∀ {l m : List Int}, l.Pairwise (· < ·) → m.Pairwise (· < ·) → (∀ x, x ∈ l ↔ x ∈ m) → l = m
  | [], [], _, _, _ => rfl
  | [], y :: m, _, _, h => absurd ((h y).mpr List.mem_cons_self) (by simp)
  | x :: l, [], _, _, h => absurd ((h x).mp List.mem_cons_self) (by simp)
  | x :: l, y :: m, hl, hm, h => by
    obtain ⟨l1, l2⟩ := List.pairwise_cons.mp hl
    obtain ⟨m1, m2⟩ := List.pairwise_cons.mp hm
    have hxy : x = y := by
      rcases List.mem_cons.mp ((h x).mp List.mem_cons_self) with e | e
      · exact e
      · rcases List.mem_cons.mp ((h y).mpr List.mem_cons_self) with e2 | e2
        · exact e2.symm
        · have := m1 x e
          have := l1 y e2
          omega
    subst hxy
    rw [lt_uniq l2 m2 fun z => ?_]
    have hz := h z
    rw [List.mem_cons, List.mem_cons] at hz
    constructor
    · intro hm
      rcases hz.mp (.inr hm) with e | e
      · have := l1 z hm
        omega
      · exact e
    · intro hm
      rcases hz.mpr (.inr hm) with e | e
      · have := m1 z hm
        omega
      · exact e
theorem asc_strict {l : List Int} (h : l.Nodup) : (ascI l).Pairwise (· < ·) := by
  have h1 : (ascI l).Pairwise (· ≤ ·) := by
    have := List.pairwise_mergeSort (le := fun a b : Int => decide (a ≤ b)) (fun a b c h1 h2 => by simp at *; omega) (fun a b => by simp; omega) l
    exact this.imp fun h => by simpa using h
  have h2 : (ascI l).Nodup := (List.mergeSort_perm l _).nodup_iff.mpr h
  exact (h1.and h2).imp fun ⟨q1, q2⟩ => by omega
theorem asc_mem {x : Int} (l : List Int) : x ∈ ascI l ↔ x ∈ l := (List.mergeSort_perm l _).mem_iff
theorem ra_ints {W : Addr → Prop} {H : Hp} : ∀ l : List Int, RA W H (l.map V.int) (l.map PyData.int)
  | [] => .nil
  | i :: l => .cons (R.int _) (ra_ints l)
/-- the set at D that nobody has -/
def FreeS (w : World) (ρ : List Addr) (env : List (Option EV)) (W : Addr → Prop) (σ : L2.St) (H : Hp) (D : Addr) (acc : List Int) : Prop := W D ∧ ¬ Lc ρ env σ D ∧ ∃ (M : Int → Bool), H D = some (SetO w D M (nubI acc).length) ∧ ∀ k, M k = decide (k ∈ acc)
theorem FreeS.step {w : World} {K : PySem.W.Frag} {ρ ρ' : List Addr} {st st' : Stt} {W W' : Addr → Prop} {σ σ' : L2.St} {H H' : Hp} {D : Addr} {acc : List Int} (h : FreeS w ρ st.env W σ H D acc) (s : Step K ρ st W σ H ρ' st' W' σ' H') : FreeS w ρ' st'.env W' σ' H' D acc := by
  obtain ⟨q, l, M, e, hk⟩ := h
  obtain ⟨w', e'⟩ := s.fr.hold D q l
  refine ⟨w', fun z => ?_, M, e'.trans e, hk⟩
  rcases s.sub D z with q | q
  · exact l q
  · rw [e] at q; cases q
/-- what is asked of the set -/
def rAsk (w : World) (b : Bool) (Q : VK) : VK := fun x H => ∃ (a : Addr) (M : Int → Bool) (n : Nat), x = .ref a ∧ H a = some (SetO w a M n) ∧ (if b = true then n < 64 ∧ ∀ (ns : List Int) (p : Addr), ns.Pairwise (· < ·) → (∀ k : Int, k ∈ ns ↔ M k = true) → ns.length = n → H p = none → Q (.ref p) (L2.upd H p (.lst (ns.map V.int))) else n ≤ 4000 ∧ Q (.int n) H)
theorem sco_te {b : Bool} {elt : IE} {tg : Tg} {it : II} {cond : IO} {own : List Nat} (hown : (slotsT tg).all (own.contains ·) = true) {σ : L2.St} {H : Hp} {Q : VK} {v : PreE} (hv : wpX S (.sco b elt tg it cond own) = both v) (h : TE' X.K v σ H Q) :
    tSci X.w (TI' X.K (wpI S it)) (gT X.K tg) (TT' X.K (wpC S cond)) (TE' X.K (wpE S elt)) own σ H (rAsk X.w b Q) := by
  have hv := congrArg Prod.fst hv
  have hv : _ = v := hv
  subst hv
  obtain ⟨ρ, st, W, P, r, w, k⟩ := h
  refine ⟨ρ, st, W, _, r, w, fun ds os st1 ρ1 W1 H1 xs J p1 s1 t1 wk D hD => ?_⟩
  have r1 := s1.rel
  have sw := r1.wipe own
  have rw_ := sw.rel
  have tw := t1.wiped r1 (wpFold_chk p1)
  have gr : Step X.K ρ1 { st1 with env := wipeE own st1.env } W1 (L2.wipe σ own) H1 ρ1 { st1 with env := wipeE own st1.env } (fun a => W1 a ∨ a = D) (L2.wipe σ own) (L2.upd H1 D (SetO X.w D (fun _ => false) 0)) :=
    rw_.grow (Ext.upd hD) (fun a w => .inl w) fun a w => w.elim .inl fun z => .inr (by subst z; exact ⟨hD, by rw [upd_same]; simp⟩)
  have fr0 : FreeS X.w ρ1 (wipeE own st1.env) (fun a => W1 a ∨ a = D) (L2.wipe σ own) (L2.upd H1 D (SetO X.w D (fun _ => false) 0)) D [] :=
    ⟨.inr rfl, fun l => (Lc.there rw_ l).2 hD, fun _ => false, upd_same, fun k => by simp⟩
  generalize hstep : (fun (d : PyData) (acc : List Int) (K : List Int → Stt → Prop) (st2 : Stt) => ∃ env', bindT tg d (wipeE own st2.env) = some env' ∧
        wpC S cond (fun t st3 => if t then (wpX S elt).1 (fun o st4 => ∃ n, o.val = .dat (.int n) ∧ acc.length < 4000 ∧ K (acc ++ [n]) { st4 with env := wipeE own st4.env }) st3 else K acc { st3 with env := wipeE own st3.env }) { st2 with env := env' }) = step at p1
  generalize hdone : (fun (acc : List Int) (st5 : Stt) => ∃ o, setI b acc = some o ∧ P o { st5 with env := backE own st1.env st5.env }) = done at p1
  refine ⟨fun i m Hc => m = ds.length - i ∧ i ≤ ds.length ∧ ∃ ρ' st' W' acc, acc.length ≤ 4000 ∧ Step X.K ρ1 { st1 with env := wipeE own st1.env } W1 (L2.wipe σ own) H1 ρ' st' W' (L2.wipe σ own) Hc ∧ FreeS X.w ρ' st'.env W' (L2.wipe σ own) Hc D acc ∧ wpFold (okAs os) step done (ds.drop i) acc st',
    ⟨ds.length, by simp, by omega, ρ1, _, _, [], by simp, gr, fr0, by simpa using p1⟩, ?_⟩
  rintro i m Hc ⟨hm, hi, ρ', st', W', acc, ha, s2, fr2, p2⟩
  have our := (ROs.later s2 rw_ tw (wpFold_chk p2)).our s2.rel
  obtain ⟨w1, w2⟩ := wk i W' Hc s2.rel.s.wn our
  by_cases hlt : i < ds.length
  · obtain ⟨w3, w4⟩ := w2 ds[i] (List.getElem?_eq_getElem hlt)
    rw [List.drop_eq_getElem_cons hlt] at p2
    obtain ⟨chk, p3⟩ := p2
    rw [← hstep] at p3
    obtain ⟨env', hb, p4⟩ := p3
    refine .inr ⟨w3, fun Hc => i + 1 ≤ ds.length ∧ ∃ ρ' st' W' acc, acc.length ≤ 4000 ∧ Step X.K ρ1 { st1 with env := wipeE own st1.env } W1 (L2.wipe σ own) H1 ρ' st' W' (L2.wipe σ own) Hc ∧ FreeS X.w ρ' st'.env W' (L2.wipe σ own) Hc D acc ∧ wpFold (okAs os) step done (ds.drop (i + 1)) acc st',
      fun H' ⟨z1, z2⟩ => ⟨ds.length - (i + 1), by omega, rfl, z1, z2⟩, fun x H' hy => ?_⟩
    obtain ⟨ext, rx⟩ := w4 x H' hy
    have g2 : Step X.K ρ' st' W' (L2.wipe σ own) Hc ρ' st' W' (L2.wipe σ own) H' := s2.rel.grow ext (fun _ w => w) fun _ w => .inl w
    have g3 := g2.trans s2.rel (g2.rel.wipe own)
    rw [wipe_wipe] at g3
    refine gT_of tg ds[i] x { st' with env := wipeE own st'.env } _ env' _ g3.rel rx hb fun σ2 g4 same => ?_
    have ws : L2.wipe σ2 own = L2.wipe σ own := by
      have hl : σ2.length = (L2.wipe σ own).length := by rw [← g4.rel.len, ← g3.rel.len]; exact (bindT_len' hb)
      rw [← wipe_wipe (σ := σ) own]
      refine wipe_eq (fun j hj => same j fun z => hj ?_) hl
      have := List.all_eq_true.mp hown j z
      simpa using this
    have g5 := g3.trans s2.rel g4
    refine ⟨ws, ρ', _, W', _, g4.rel, p4, fun t st3 ρ3 W3 H3 p5 s3 => ?_⟩
    have g6 := g5.trans s2.rel s3
    cases t with
    | false =>
      simp only [Bool.false_eq_true, if_false] at p5 ⊢
      have g7 := g6.trans s2.rel (s3.rel.wipe own)
      rw [ws] at g7
      rw [hstep] at p5
      exact ⟨by omega, ρ3, _, W3, acc, ha, s2.trans rw_ g7, fr2.step g7, p5⟩
    | true =>
      simp only [if_true] at p5 ⊢
      refine ⟨ρ3, st3, W3, _, s3.rel, p5, fun o st4 ρ4 W4 H4 y q4 s4 t4 => ?_⟩
      obtain ⟨n, en, hlen, p7⟩ := q4
      obtain rfl := t4.toInt s4.rel en
      have g7 := g6.trans s2.rel s4
      have g8 := g7.trans s2.rel (s4.rel.wipe own)
      rw [ws] at g8
      have f8 := fr2.step g8
      obtain ⟨fw, fl, M, fe, fk⟩ := f8
      rw [hstep] at p7
      have hnl := nub_le acc
      have hcnt : (if M n = true then (nubI acc).length else (nubI acc).length + 1) = (nubI (acc ++ [n])).length := by
        rw [nub_add, fk n]
        by_cases hn : n ∈ acc
        · rw [if_pos (by simpa using hn), if_pos ((nub_mem acc).mpr hn)]
        · rw [if_neg (by simpa using hn), if_neg fun z => hn ((nub_mem acc).mp z), List.length_append]
          rfl
      refine ⟨D, n, M, (nubI acc).length, rfl, rfl, fe, by unfold scanBound; omega, ?_⟩
      rw [hcnt]
      exact ⟨by omega, ρ4, _, W4, acc ++ [n], by simp; omega, Step.upd rw_ (s2.trans rw_ g8) hD fw fl, ⟨fw, fl, _, upd_same, fun j => by rw [fk j]; simp⟩, p7⟩
  · have e : i = ds.length := by omega
    subst e
    rw [List.drop_length] at p2
    obtain ⟨chk, p3⟩ := p2
    rw [← hdone] at p3
    have bk := r1.back s2
    obtain ⟨fw, fl, M, fe, fk⟩ := fr2
    obtain ⟨o, eo, p4⟩ := p3
    have hnl := nub_le acc
    refine .inl ⟨w1 rfl, D, M, _, rfl, fe, ?_⟩
    have st5 := s1.trans r bk
    cases b with
    | false =>
      simp only [Bool.false_eq_true, if_false]
      cases eo
      exact ⟨by omega, k _ _ _ _ _ _ p4 st5 (R.int _)⟩
    | true =>
      simp only [if_true]
      unfold setI at eo
      rw [if_pos rfl] at eo
      split at eo
      · rename_i h64
        cases eo
        refine ⟨h64, fun ns p hp hns hlen hnone => ?_⟩
        have hns2 : ns = ascI (nubI acc) := lt_uniq hp (asc_strict (nub_nd acc)) fun x => by
          rw [hns x, fk x, asc_mem, nub_mem]
          simp
        subst hns2
        have gr2 := st5.rel.grow (W' := fun a => (W' a) ∨ a = p) (Ext.upd (o := HO.lst ((ascI (nubI acc)).map V.int)) hnone) (fun c w => .inl w) (fun c w => w.elim .inl fun z => .inr (by subst z; exact ⟨hnone, by rw [upd_same]; simp⟩))
        exact k _ _ _ _ _ _ p4 (st5.trans r gr2) ⟨p, _, rfl, rfl, .inr rfl, ⟨_, upd_same, ra_ints _⟩, fun l => (Lc.there st5.rel l).2 hnone, st5.free hnone⟩
      · cases eo
theorem pe_ask {b : Bool} {v : Expr} {to : TE} {x : Str} {p1 p4 : Pos} (cl : X.calm = true) (hx : x = if b then "sorted" else "len") (g1 : Gl X x) (m1 : X.mg x = none) (hv : PE X v to)
    (ns : starEach [v] X.env = (false, eval v X.env) :: starEach [] X.env) : PE X (.Call (.Name x p1) [v] [] p4) (fun σ H Q => to σ H (rAsk X.w b Q)) := by
  constructor
  intro pins s σ H Q I w
  cases b with
  | false =>
    have hx : x = "len" := hx
    subst hx
    apply Call_ (ld_blt I g1 m1 boot_len ?_)
    apply PyProof.Rows.callWith_builtin1 (PyProof.Rows.args_cons (thn (hv.run pins s σ H _ I w) fun u s1 ⟨y, H1, I1, r1, q1⟩ => PyProof.Rows.args_nil ?_) ns) ns rfl
    obtain ⟨a, M, n, rfl, ha, hn, q⟩ := q1
    cases r1
    obtain ⟨o, es, ep, t, f1, f2, f3, _, _, _, f4, f5⟩ := (setO_get I1 ha).setOf (P := X.prog)
    exact call_len_set f1 f2 f3 f4 (by rw [f5]; omega) ⟨.int (n : Nat), H1, I1.tok _, ⟨_, by rw [f5]⟩, q⟩
  | true =>
    have hx : x = "sorted" := hx
    subst hx
    apply Call_ (ld_blt I g1 m1 rfl ?_)
    apply PyProof.Rows.callWith_builtin1 (PyProof.Rows.args_cons (thn (hv.run pins s σ H _ I w) fun u s1 ⟨y, H1, I1, r1, q1⟩ => PyProof.Rows.args_nil ?_) ns) ns rfl
    obtain ⟨a, M, n, rfl, ha, hn, q⟩ := q1
    exact cr_sortedSet cl pins s1 σ H1 [.ref a] [u] Q I1 (.cons r1 .nil) ⟨a, M, n, rfl, ha, hn, q⟩
theorem s_sco {b : Bool} {elt : IE} {tg : Tg} {it : II} {cond : IO} {own : List Nat} {elt' tg' it' : Expr} {ifs : List Expr} {x : Str} {pos p1 p4 : Pos} (c : XOk F N S X sc) (hx : x = if b then "sorted" else "len") (g1 : glB sc x = true) (hi : SoundI X S it' it) (hb : blkC N sc scope (own.map fun i => (N.getD i "", i)) = true) (htg : mT N scope tg tg' = true)
    (hc : ∀ Y, XOk F N S Y scope → SoundC Y S ifs cond) (he : ∀ Y, XOk F N S Y scope → Sound Y S elt' elt) (hs : setB it' = false) (ht : tupI it tg' = true) (hown : (slotsT tg).all (own.contains ·) = true) :
    Sound X S (.Call (.Name x p1) [.SetComp elt' [⟨tg', it', ifs, 0⟩] scope pos] [] p4) (.sco b elt tg it cond own) := by
  have pe := pe_sci (g := gT X.K tg) (tt := TT' X.K (wpC S cond)) (te := TE' X.K (wpE S elt)) (pos := pos) (own := own.map fun i => (N.getD i "", i)) c.calm (by rw [c.hN]; exact c.nd) (hi tg' ht) (c.blkOk hb) (fun s H C cl fp => pg_of (c.blk s H C cl fp) tg tg' htg) (fun s H C cl fp => hc _ (c.blk s H C cl fp)) (fun s H C cl fp => (he _ (c.blk s H C cl fp)).pe) (fun x => foldOff hs x)
  rw [own_map] at pe
  have bx : x ∈ bltNames := by
    rw [hx]
    cases b <;> decide
  refine Sound.plain rfl ((pe_ask (b := b) c.calm hx (c.glOk g1) (c.blt _ bx) pe (notStar rfl _ _)).weak fun σ H Q h => sco_te hown rfl h) rfl
end
end Ev
end

section
set_option Elab.async false
set_option linter.all false
set_option maxRecDepth 100000
/-! Ev19: every expression that matches. -/
namespace Ev
open PySem PySem.Spec PyProof.Rows L2
section
variable {F : List String} {N : List Str} {S : SpecK}
theorem mR_shape : ∀ {fs : IR} {sc : Scope} {ks : List (Option Expr)} {vs : List Expr}, mR F N sc fs ks vs = true → ks.all (·.isSome) = true ∧ ks.length = vs.length ∧ ks.length = (namesR fs).length
  | .nil, sc, ks, vs, h => by
    simp only [mR] at h
    split at h
    · exact ⟨rfl, rfl, rfl⟩
    · cases h
  | .cons x e fs, sc, ks, vs, h => by
    simp only [mR] at h
    split at h
    · simp only [Bool.and_eq_true] at h
      obtain ⟨h1, h2, h3⟩ := mR_shape h.2
      exact ⟨by simpa using h1, by simp [h2], by simp [namesR, h3]⟩
    · cases h
mutual
theorem s_e : ∀ (ie : IE) {sc : Scope} {e : Expr} {X : Cx}, mE F N sc ie e = true → XOk F N S X sc → Sound X S e ie
  | .var i, sc, e, X, h, c => by
    simp only [mE] at h
    split at h
    · simp only [Bool.and_eq_true, decide_eq_true_eq] at h
      exact s_var c h.1.1 h.1.2 h.2
    · cases h
  | .non, sc, e, X, h, c => by
    simp only [mE] at h
    split at h
    · exact s_cst rfl pe_non (fun _ _ => .non) rfl
    · cases h
  | .bl b, sc, e, X, h, c => by
    simp only [mE] at h
    split at h
    · simp only [beq_iff_eq] at h
      subst h
      exact s_cst rfl pe_bl (fun _ _ => .bl _) rfl
    · cases h
  | .int i, sc, e, X, h, c => by
    simp only [mE] at h
    split at h
    · simp only [decide_eq_true_eq] at h
      subst h
      exact s_cst rfl pe_int (fun _ _ => .int _) rfl
    · cases h
  | .str x, sc, e, X, h, c => by
    simp only [mE] at h
    split at h
    · simp only [decide_eq_true_eq] at h
      subst h
      exact s_cst rfl pe_str (fun _ _ => .str _) rfl
    · cases h
  | .bin op a b, sc, e, X, h, c => by
    simp only [mE] at h
    split at h
    · simp only [Bool.and_eq_true, decide_eq_true_eq] at h
      obtain ⟨⟨rfl, h1⟩, h2⟩ := h
      exact s_bin (s_e a h1 c) (s_e b h2 c)
    · cases h
  | .neg a, sc, e, X, h, c => by
    simp only [mE] at h
    split at h
    · exact s_neg (s_e a h c)
    · cases h
  | .nt a, sc, e, X, h, c => by
    simp only [mE] at h
    split at h
    · simp only [Bool.and_eq_true] at h
      exact s_nt (s_e a h.1 c) h.2
    · cases h
  | .bop b es, sc, e, X, h, c => by
    simp only [mE] at h
    split at h
    · simp only [Bool.and_eq_true, beq_iff_eq] at h
      obtain ⟨rfl, h1⟩ := h
      exact s_bop (s_b es h1 c)
    · cases h
  | .ife t a b, sc, e, X, h, c => by
    simp only [mE] at h
    split at h
    · simp only [Bool.and_eq_true] at h
      obtain ⟨⟨⟨h1, h2⟩, h3⟩, h4⟩ := h
      exact s_ife (s_e t h1 c) h2 (s_e a h3 c) (s_e b h4 c)
    · cases h
  | .tup es, sc, e, X, h, c => by
    simp only [mE] at h
    split at h
    · exact s_tup (s_es es h c)
    · cases h
  | .lst es, sc, e, X, h, c => by
    simp only [mE] at h
    split at h
    · exact s_lst (s_es es h c)
    · cases h
  | .cmp op a b, sc, e, X, h, c => by
    simp only [mE] at h
    split at h
    · simp only [Bool.and_eq_true, decide_eq_true_eq, Bool.not_eq_true'] at h
      obtain ⟨⟨⟨rfl, h1⟩, h2⟩, h3⟩ := h
      exact s_cmp c (s_e a h1 c) (s_e b h2 c) h3
    · cases h
  | .chain op op' a b d, sc, e, X, h, c => by
    simp only [mE] at h
    split at h
    · simp only [Bool.and_eq_true, decide_eq_true_eq, Bool.not_eq_true'] at h
      obtain ⟨⟨⟨⟨⟨⟨rfl, rfl⟩, h1⟩, h2⟩, h3⟩, h4⟩, h5⟩ := h
      exact s_chain c (s_e a h1 c) (s_e b h2 c) (s_e d h3 c) h4 h5
    · cases h
  | .call f es, sc, e, X, h, c => by
    simp only [mE] at h
    split at h
    · simp only [Bool.and_eq_true, decide_eq_true_eq, Bool.not_eq_true'] at h
      obtain ⟨⟨⟨⟨⟨⟨h1, h2⟩, h3⟩, h4⟩, h5⟩, h6⟩, h7⟩ := h
      exact s_call c h1 h2 h3 h4 h5 h6 (s_es es h7 c)
    · cases h
  | .callK f es, sc, e, X, h, c => by
    simp only [mE] at h
    split at h
    · simp only [Bool.and_eq_true, decide_eq_true_eq, Bool.not_eq_true'] at h
      obtain ⟨⟨⟨⟨⟨⟨h1, h2⟩, h3⟩, h4⟩, h5⟩, h6⟩, h7⟩ := h
      exact s_callK c h1 h2 h3 h4 h5 h6 (s_es es h7 c)
    · cases h
  | .bcl f es, sc, e, X, h, c => by
    simp only [mE] at h
    split at h
    · simp only [Bool.and_eq_true, decide_eq_true_eq, Bool.not_eq_true'] at h
      obtain ⟨⟨⟨⟨h1, h2⟩, h3⟩, h4⟩, h5⟩ := h
      exact s_bcl c h1 h2 h3 h4 (s_es es h5 c)
    · cases h
  | .mth m o es, sc, e, X, h, c => by simp [mE] at h
  | .rmv o v, sc, e, X, h, c => by
    simp only [mE] at h
    split at h
    · simp only [Bool.and_eq_true, decide_eq_true_eq, Bool.not_eq_true'] at h
      obtain ⟨⟨⟨⟨⟨h1, h2⟩, h3⟩, h4⟩, h5⟩, h6⟩ := h
      exact s_rmv c h1 h2 h3 (s_e o h4 c) (s_e v h5 c) h6
    · cases h
  | .app o v, sc, e, X, h, c => by
    simp only [mE] at h
    split at h
    · simp only [Bool.and_eq_true, decide_eq_true_eq, Bool.not_eq_true'] at h
      obtain ⟨⟨⟨⟨⟨h1, h2⟩, h3⟩, h4⟩, h5⟩, h6⟩ := h
      exact s_app h1 h2 h3 (s_e o h4 c) (s_e v h5 c) h6
    · cases h
  | .upd o v, sc, e, X, h, c => by
    simp only [mE] at h
    split at h
    · simp only [Bool.and_eq_true, decide_eq_true_eq, Bool.not_eq_true'] at h
      obtain ⟨⟨⟨⟨⟨h1, h2⟩, h3⟩, h4⟩, h5⟩, h6⟩ := h
      exact s_upd h1 h2 h3 (s_e o h4 c) (s_e v h5 c) h6
    · cases h
  | .ext o v, sc, e, X, h, c => by
    simp only [mE] at h
    split at h
    · simp only [Bool.and_eq_true, decide_eq_true_eq, Bool.not_eq_true'] at h
      obtain ⟨⟨⟨⟨⟨h1, h2⟩, h3⟩, h4⟩, h5⟩, h6⟩ := h
      exact s_ext h1 h2 h3 (s_e o h4 c) (s_e v h5 c) h6
    · cases h
  | .rmd o v, sc, e, X, h, c => by
    simp only [mE] at h
    split at h
    · simp only [Bool.and_eq_true, decide_eq_true_eq, Bool.not_eq_true'] at h
      obtain ⟨⟨⟨⟨⟨h1, h2⟩, h3⟩, h4⟩, h5⟩, h6⟩ := h
      exact s_rmd c h1 h2 h3 (s_e o h4 c) (s_e v h5 c) h6
    · cases h
  | .fnd o v, sc, e, X, h, c => by
    simp only [mE] at h
    split at h
    · simp only [Bool.and_eq_true, decide_eq_true_eq, Bool.not_eq_true'] at h
      obtain ⟨⟨⟨⟨⟨h1, h2⟩, h3⟩, h4⟩, h5⟩, h6⟩ := h
      exact s_fnd c h1 h2 h3 (s_e o h4 c) (s_e v h5 c) h6
    · cases h
  | .ctd o v, sc, e, X, h, c => by
    simp only [mE] at h
    split at h
    · simp only [Bool.and_eq_true, decide_eq_true_eq, Bool.not_eq_true'] at h
      obtain ⟨⟨⟨⟨⟨h1, h2⟩, h3⟩, h4⟩, h5⟩, h6⟩ := h
      exact s_ctd c h1 h2 h3 (s_e o h4 c) (s_e v h5 c) h6
    · cases h
  | .pop o .nil, sc, e, X, h, c => by
    simp only [mE] at h
    split at h
    · simp only [Bool.and_eq_true, decide_eq_true_eq] at h
      obtain ⟨⟨⟨h1, h2⟩, h3⟩, h4⟩ := h
      exact s_pop0 h1 h2 h3 (s_e o h4 c)
    · cases h
  | .pop o (.cons v .nil), sc, e, X, h, c => by
    simp only [mE] at h
    split at h
    · simp only [Bool.and_eq_true, decide_eq_true_eq, Bool.not_eq_true'] at h
      obtain ⟨⟨⟨⟨⟨h1, h2⟩, h3⟩, h4⟩, h5⟩, h6⟩ := h
      exact s_pop1 h1 h2 h3 (s_e o h4 c) (s_e v h5 c) h6
    · cases h
  | .pop o (.cons v (.cons _ _)), sc, e, X, h, c => by simp [mE] at h
  | .pop o (.cons v (.star _ _)), sc, e, X, h, c => by simp [mE] at h
  | .pop o (.star _ _), sc, e, X, h, c => by simp [mE] at h
  | .idx o i, sc, e, X, h, c => by
    simp only [mE] at h
    split at h
    · simp only [Bool.and_eq_true, Bool.not_eq_true'] at h
      obtain ⟨⟨h1, h2⟩, h3⟩ := h
      exact s_idx c (s_e o h1 c) (s_e i h2 c) h3
    · cases h
  | .slc o lo hi, sc, e, X, h, c => by
    simp only [mE] at h
    split at h
    · simp only [Bool.and_eq_true] at h
      obtain ⟨⟨h1, h2⟩, h3⟩ := h
      exact s_slc (s_e o h1 c) (s_o lo h2 c) (s_o hi h3 c)
    · cases h
  | .rev o, sc, e, X, h, c => by
    simp only [mE] at h
    split at h
    · simp only [Bool.and_eq_true, decide_eq_true_eq] at h
      exact s_rev h.1 (s_e o h.2 c)
    · cases h
  | .comp elt tg it cond own, sc, e, X, h, c => by
    simp only [mE] at h
    split at h
    · simp only [Bool.and_eq_true, Bool.not_eq_true'] at h
      obtain ⟨⟨⟨⟨⟨⟨⟨h1, h2⟩, h3⟩, h4⟩, h5⟩, h6⟩, h7⟩, h8⟩ := h
      exact s_comp c (s_i it h1 c) h2 h3 (fun Y cy => s_c cond h4 cy) (fun Y cy => s_e elt h5 cy) h6 h7 h8
    · cases h
  | .comp2 elt tg it cond tg1 it1 cond1 own own1, sc, e, X, h, c => by
    simp only [mE] at h
    split at h
    · simp only [Bool.and_eq_true, Bool.not_eq_true'] at h
      obtain ⟨⟨⟨⟨⟨⟨⟨⟨⟨⟨⟨⟨⟨⟨h1, h2⟩, h3⟩, h4⟩, h5⟩, h6⟩, h7⟩, h8⟩, h9⟩, h10⟩, h11⟩, h12⟩, h13⟩, h14⟩, h15⟩ := h
      exact s_comp2 c (s_i it h1 c) h2 h3 (fun Y cy => s_c cond h4 cy) (fun Y cy => s_i it1 h5 cy) h6 (fun Y cy => s_c cond1 h7 cy) (fun Y cy => s_e elt h8 cy) h9 h10 h11 h12 h13 h14 h15
    · cases h
  | .lset v, sc, e, X, h, c => by
    simp only [mE] at h
    split at h
    · simp only [Bool.and_eq_true, decide_eq_true_eq, Bool.not_eq_true'] at h
      obtain ⟨⟨⟨⟨⟨h1, h2⟩, h3⟩, h4⟩, h5⟩, h6⟩ := h
      exact s_lset c h1 h2 h3 h4 (s_e v h5 c) h6
    · cases h
  | .sco b elt tg it cond own, sc, e, X, h, c => by
    simp only [mE] at h
    split at h
    · simp only [Bool.and_eq_true, decide_eq_true_eq, Bool.not_eq_true'] at h
      obtain ⟨⟨⟨⟨⟨⟨⟨⟨⟨h1, h2⟩, h3⟩, h4⟩, h5⟩, h6⟩, h7⟩, h8⟩, h9⟩, h10⟩ := h
      exact s_sco c h1 h2 (s_i it h3 c) h4 h5 (fun Y cy => s_c cond h6 cy) (fun Y cy => s_e elt h7 cy) h8 h9 h10
    · cases h
  | .dct1 k v, sc, e, X, h, c => by
    simp only [mE] at h
    split at h
    · simp only [Bool.and_eq_true] at h
      exact s_dct1 (s_e k h.1 c) (s_e v h.2 c)
    · cases h
  | .dcp kx vx tg it cond own, sc, e, X, h, c => by
    simp only [mE] at h
    split at h
    · simp only [Bool.and_eq_true, Bool.not_eq_true'] at h
      obtain ⟨⟨⟨⟨⟨⟨⟨⟨h1, h2⟩, h3⟩, h4⟩, h5⟩, h6⟩, h7⟩, h8⟩, h9⟩ := h
      exact s_dcp c (s_i it h1 c) h2 h3 (fun Y cy => s_c cond h4 cy) (fun Y cy => s_e kx h5 cy) (fun Y cy => s_e vx h6 cy) h7 h8 h9
    · cases h
  | .dnew t, sc, e, X, h, c => by
    simp only [mE] at h
    split at h
    · exact s_dnew
    · cases h
  | .rcd fs, sc, e, X, h, c => by
    simp only [mE] at h
    split at h
    · simp only [Bool.and_eq_true, decide_eq_true_eq, Bool.not_eq_true'] at h
      obtain ⟨⟨⟨h1, h2⟩, h3⟩, h4⟩ := h
      obtain ⟨g1, g2, g3⟩ := mR_shape h1
      exact s_rcd (s_r fs h1 c) h2 h3 h4 g1 g2 g3
    · cases h
  | .isi a t, sc, e, X, h, c => by
    simp only [mE] at h
    split at h
    · simp only [Bool.and_eq_true, decide_eq_true_eq, Bool.not_eq_true'] at h
      obtain ⟨⟨⟨⟨⟨h1, h2⟩, h3⟩, h4⟩, h5⟩, h6⟩ := h
      exact s_isi c h1 h2 h3 h4 (s_e a h5 c) h6
    · cases h
  | .isN neg a, sc, e, X, h, c => by
    simp only [mE] at h
    split at h
    · simp only [Bool.and_eq_true, decide_eq_true_eq] at h
      obtain ⟨rfl, h1⟩ := h
      exact s_isN (s_e a h1 c)
    · cases h
  | .lrg t (.rg1 a), sc, e, X, h, c => by
    simp only [mE] at h
    split at h
    · simp only [Bool.and_eq_true, decide_eq_true_eq, Bool.not_eq_true'] at h
      obtain ⟨⟨⟨⟨⟨h1, h2⟩, h3⟩, h4⟩, h5⟩, h6⟩ := h
      exact s_lrg c h1 h2 h3 h4 (s_e a h5 c) h6
    · cases h
  | .lrg t (.rg2 a b), sc, e, X, h, c => by
    simp only [mE] at h
    split at h
    · simp only [Bool.and_eq_true, decide_eq_true_eq, Bool.not_eq_true'] at h
      obtain ⟨⟨⟨⟨⟨⟨⟨h1, h2⟩, h3⟩, h4⟩, h5⟩, h6⟩, h7⟩, h8⟩ := h
      exact s_lrg2 c h1 h2 h3 h4 (s_e a h5 c) h6 (s_e b h7 c) h8
    · cases h
  | .lrg t (.rg3 _ _ _), sc, e, X, h, c => by simp [mE] at h
  | .lrg t (.ex _), sc, e, X, h, c => by simp [mE] at h
  | .lrg t (.enm _), sc, e, X, h, c => by simp [mE] at h
  | .lrg t (.zip _ _), sc, e, X, h, c => by simp [mE] at h
  | .lrg t (.zps _ _), sc, e, X, h, c => by simp [mE] at h
theorem s_es : ∀ (es : IEs) {sc : Scope} {vs : List Expr} {X : Cx}, mEs F N sc es vs = true → XOk F N S X sc → SoundA X S vs es
  | .nil, sc, vs, X, h, c => by
    simp only [mEs] at h
    split at h
    · exact sa_nil
    · cases h
  | .cons e es, sc, vs, X, h, c => by
    simp only [mEs] at h
    split at h
    · simp only [Bool.and_eq_true, Bool.not_eq_true'] at h
      obtain ⟨⟨h1, h2⟩, h3⟩ := h
      exact sa_cons (s_e e h1 c) h2 (s_es es h3 c)
    · cases h
  | .star e es, sc, vs, X, h, c => by
    simp only [mEs] at h
    split at h
    · simp only [Bool.and_eq_true] at h
      exact sa_star (s_e e h.1 c) (s_es es h.2 c)
    · cases h
theorem s_b : ∀ (es : IEs) {op : BoolOp} {sc : Scope} {vs : List Expr} {X : Cx}, mB F N sc es vs = true → XOk F N S X sc → SoundB X S op vs es
  | .nil, op, sc, vs, X, h, c => by simp [mB] at h
  | .star _ _, op, sc, vs, X, h, c => by simp [mB] at h
  | .cons e (.star _ _), op, sc, vs, X, h, c => by simp [mB] at h
  | .cons e .nil, op, sc, vs, X, h, c => by
    simp only [mB] at h
    split at h
    · simp only [Bool.and_eq_true] at h
      exact sb_one (s_e e h.1 c) h.2
    · cases h
  | .cons e (.cons e2 es), op, sc, vs, X, h, c => by
    simp only [mB] at h
    split at h
    · rw [Bool.and_eq_true, Bool.and_eq_true] at h
      exact sb_cons (s_e e h.1.1 c) h.1.2 (s_b (.cons e2 es) h.2 c)
    · cases h
theorem s_o : ∀ (o : IO) {sc : Scope} {e : Option Expr} {X : Cx}, mO F N sc o e = true → XOk F N S X sc → SoundO X S e o
  | .no, sc, e, X, h, c => by
    simp only [mO] at h
    split at h
    · exact so_no
    · cases h
  | .so a, sc, e, X, h, c => by
    simp only [mO] at h
    split at h
    · exact so_so (s_e a h c)
    · cases h
theorem s_c : ∀ (o : IO) {sc : Scope} {ifs : List Expr} {X : Cx}, mC F N sc o ifs = true → XOk F N S X sc → SoundC X S ifs o
  | .no, sc, e, X, h, c => by
    simp only [mC] at h
    split at h
    · exact sc_no
    · cases h
  | .so a, sc, e, X, h, c => by
    simp only [mC] at h
    split at h
    · simp only [Bool.and_eq_true] at h
      exact sc_so (s_e a h.1 c) h.2
    · cases h
theorem s_r : ∀ (fs : IR) {sc : Scope} {ks : List (Option Expr)} {vs : List Expr} {X : Cx}, mR F N sc fs ks vs = true → XOk F N S X sc → SoundR X S ks vs fs
  | .nil, sc, ks, vs, X, h, c => by
    simp only [mR] at h
    split at h
    · exact sr_nil
    · cases h
  | .cons x e fs, sc, ks, vs, X, h, c => by
    simp only [mR] at h
    split at h
    · simp only [Bool.and_eq_true, decide_eq_true_eq] at h
      obtain ⟨⟨rfl, h1⟩, h2⟩ := h
      exact sr_cons (s_e e h1 c) (s_r fs h2 c)
    · cases h
theorem s_i : ∀ (ii : II) {sc : Scope} {e : Expr} {X : Cx}, mI F N sc ii e = true → XOk F N S X sc → SoundI X S e ii
  | .ex a, sc, e, X, h, c => si_ex (s_e a (by simpa only [mI] using h) c)
  | .rg1 a, sc, e, X, h, c => by
    simp only [mI] at h
    split at h
    · simp only [Bool.and_eq_true, decide_eq_true_eq, Bool.not_eq_true'] at h
      obtain ⟨⟨⟨rfl, h1⟩, h2⟩, h3⟩ := h
      exact si_rg1 c h1 (s_e a h2 c) h3
    · cases h
  | .rg2 a b, sc, e, X, h, c => by
    simp only [mI] at h
    split at h
    · simp only [Bool.and_eq_true, decide_eq_true_eq, Bool.not_eq_true'] at h
      obtain ⟨⟨⟨⟨⟨rfl, h1⟩, h2⟩, h3⟩, h4⟩, h5⟩ := h
      exact si_rg2 c h1 (s_e a h2 c) h3 (s_e b h4 c) h5
    · cases h
  | .rg3 a b d, sc, e, X, h, c => by
    simp only [mI] at h
    split at h
    · simp only [Bool.and_eq_true, decide_eq_true_eq, Bool.not_eq_true'] at h
      obtain ⟨⟨⟨⟨⟨⟨⟨rfl, h1⟩, h2⟩, h3⟩, h4⟩, h5⟩, h6⟩, h7⟩ := h
      exact si_rg3 c h1 (s_e a h2 c) h3 (s_e b h4 c) h5 (s_e d h6 c) h7
    · cases h
  | .enm a, sc, e, X, h, c => by
    simp only [mI] at h
    split at h
    · simp only [Bool.and_eq_true, decide_eq_true_eq, Bool.not_eq_true'] at h
      obtain ⟨⟨⟨rfl, h1⟩, h2⟩, h3⟩ := h
      exact si_enm c h1 (s_e a h2 c) h3
    · cases h
  | .zip a b, sc, e, X, h, c => by
    simp only [mI] at h
    split at h
    · simp only [Bool.and_eq_true, decide_eq_true_eq, Bool.not_eq_true'] at h
      obtain ⟨⟨⟨⟨⟨rfl, h1⟩, h2⟩, h3⟩, h4⟩, h5⟩ := h
      exact si_zip c h1 (s_e a h2 c) h3 (s_e b h4 c) h5
    · cases h
  | .zps a b, sc, e, X, h, c => by
    simp only [mI] at h
    split at h
    · simp only [Bool.and_eq_true, decide_eq_true_eq, Bool.not_eq_true'] at h
      obtain ⟨⟨⟨⟨⟨⟨⟨rfl, rfl⟩, rfl⟩, h1⟩, h2⟩, h3⟩, h4⟩, h5⟩ := h
      exact si_zps c h1 (s_e a h2 c) h3 (s_e b h4 c) h5
    · cases h
end
end
end Ev
end

section
set_option Elab.async false
set_option linter.all false
set_option maxRecDepth 100000
/-! Ev20: slots that are stored to. -/
namespace Ev
open PySem PySem.Spec PyProof.Rows L2

def freB (o : Out) : Bool := match o.tag with
  | .fre => true
  | _ => false
/-- σ with vs at the places is -/
structure SetOk (is : List Nat) (vs : List V) (σ σ' : L2.St) : Prop where
  len : σ'.length = σ.length
  at_ : ∀ (k : Nat) (i : Nat) (v : V), is[k]? = some i → vs[k]? = some v → σ'[i]? = some (some v)
  off : ∀ j, j ∉ is → σ'[j]? = σ[j]?
section
variable {K : PySem.W.Frag} {ρ ρ0 : List Addr} {st st0 : Stt} {W W0 : Addr → Prop} {σ σ0 : L2.St} {H H0 : Hp}
/-- the outs that are slots' -/
theorem slots_of {os : List Out} {xs : List V} (h : ROs K ρ st.env W σ H H0 os xs) : ∃ os1 xs1, ROs K ρ st.env W σ H H0 os1 xs1 ∧ (∀ s : Stt, frzA os1 s = frzA os s) ∧ (∀ o ∈ os1, ∃ i, o.tag = .slot i) ∧
    ∀ (k : Nat) (o : Out) (x : V), os[k]? = some o → xs[k]? = some x → (∃ i, o.tag = .slot i) → ∃ k' : Nat, os1[k']? = some o ∧ xs1[k']? = some x := by
  induction h with
  | nil => exact ⟨[], [], .nil, fun _ => rfl, fun o h => absurd h (by simp), fun k o x h => by simp at h⟩
  | cons a b c ih =>
    rename_i o x os xs
    obtain ⟨os1, xs1, h1, h2, h3, h4⟩ := ih
    by_cases ht : ∃ i, o.tag = .slot i
    · refine ⟨o :: os1, x :: xs1, .cons a h1 (fun z => by obtain ⟨i, hi⟩ := ht; rw [hi] at z; cases z), fun s => ?_, fun p hp => ?_, fun k p y e1 e2 hs => ?_⟩
      · show frzA os1 (frz o s) = frzA os (frz o s)
        exact h2 _
      · rcases List.mem_cons.mp hp with rfl | hp
        · exact ht
        · exact h3 p hp
      · cases k with
        | zero => exact ⟨0, e1, e2⟩
        | succ k =>
          obtain ⟨k', q1, q2⟩ := h4 k p y (by simpa using e1) (by simpa using e2) hs
          exact ⟨k' + 1, by simpa using q1, by simpa using q2⟩
    · refine ⟨os1, xs1, h1, fun s => ?_, h3, fun k p y e1 e2 hs => ?_⟩
      · rw [h2]
        show _ = frzA os (frz o s)
        have : frz o s = s := by
          unfold frz
          split
          · rename_i i e; exact absurd ⟨i, e⟩ ht
          · rfl
        rw [this]
      · cases k with
        | zero => simp at e1; subst e1; exact absurd hs ht
        | succ k => exact h4 k p y (by simpa using e1) (by simpa using e2) hs
/-- what lies behind an out whose slots are frozen -/
def Lain (K : PySem.W.Frag) (ρ : List Addr) (env : List (Option EV)) (W : Addr → Prop) (σ : L2.St) (H H0 : Hp) (o : Out) (x : V) : Prop :=
  (freB o = false ∧ RVal K ρ W H o.val x) ∨ (freB o = true ∧ ∃ a d, o.val = .dat d ∧ x = .ref a ∧ W a ∧ RO W H a d ∧ ¬ Lc ρ env σ a ∧ H0 a = none)
/-- the outs' slots frozen; new objects stay one's own -/
theorem freezeS {os : List Out} {xs : List V} (r0 : Rel K ρ0 st0 W0 σ H0) (s : Step K ρ0 st0 W0 σ H0 ρ st W σ H) (h : ROs K ρ st.env W σ H H0 os xs) :
    ∃ W', Step K ρ0 st0 W0 σ H0 ρ (frzA os st) W' σ H ∧ (∀ (k : Nat) (o : Out) (x : V), os[k]? = some o → xs[k]? = some x → Lain K ρ (frzA os st).env W' σ H H0 o x) := by
  obtain ⟨os1, xs1, h1, h2, h3, h4⟩ := slots_of h
  obtain ⟨W', s1, pr, hW, vals⟩ := freeze r0 s h1
  rw [h2] at s1
  refine ⟨W', s1, fun k o x e1 e2 => ?_⟩
  obtain ⟨x', e3, rt⟩ := h.get e1
  rw [e2] at e3; cases e3
  obtain ⟨tag, val⟩ := o
  cases tag with
  | frz => exact .inl ⟨rfl, RVal.pres (K := K) (ρ := ρ) (W := W) (H := H) rt pr (List.prefix_refl _)⟩
  | slot i =>
    obtain ⟨k', q1, q2⟩ := h4 k _ x e1 e2 ⟨i, rfl⟩
    obtain ⟨y, q3, q4⟩ := vals k' _ q1
    rw [q2] at q3; cases q3
    exact .inl ⟨rfl, q4⟩
  | fre =>
    obtain ⟨a, d, g1, g2, g3, g4, g5, g6⟩ := rt
    subst g2
    have na : ¬ Adr os1 xs1 a := by
      rintro ⟨k', o', z1, z2, _⟩
      obtain ⟨y, z3, z4⟩ := h1.get z1
      rw [z2] at z3; cases z3
      obtain ⟨i, hi⟩ := h3 o' (List.mem_of_getElem? z1)
      unfold RT at z4
      rw [hi] at z4
      exact g5 (.inr ⟨i, _, z4.1, z4.2⟩)
    have wa : W' a := (hW a).mpr ⟨g3, na⟩
    have env : ∀ (i : Nat) (val : Val), (frzA os st).env[i]? = some (some ⟨true, val⟩) → st.env[i]? = some (some ⟨true, val⟩) := by
      intro i val e
      rw [frzA_eq] at e
      have e : (frzEnv os st.env)[i]? = some (some ⟨true, val⟩) := e
      rcases frzEnv_at os st.env i with ⟨z1, _⟩ | ⟨o', _, _, z3⟩
      · rw [← z1]; exact e
      · have hl : i < st.env.length := by
          have := (List.getElem?_eq_some_iff.mp e).1
          rw [frzEnv_len] at this
          exact this
        rw [z3 hl] at e; cases e
    exact .inr ⟨rfl, a, d, g1, rfl, wa, g4.pres pr rfl, fun l => by
      rcases l with l | ⟨i, val, l1, l2⟩
      · exact g5 (.inl l)
      · exact g5 (.inr ⟨i, val, env i val l1, l2⟩), g6⟩
theorem setPar_at : ∀ {is : List Nat} {os : List Out} {env : List (Option EV)} {j : Nat} {ev : EV}, os.length = is.length → (setPar is os env)[j]? = some (some ev) →
    (∃ (k : Nat) (o : Out), is[k]? = some j ∧ os[k]? = some o ∧ ev = ⟨freB o, o.val⟩) ∨ (j ∉ is ∧ env[j]? = some (some ev))
  | [], os, env, j, ev, _, h => .inr ⟨by simp, by simpa [setPar] using h⟩
  | i :: is, [], env, j, ev, hl, h => by simp at hl
  | i :: is, o :: os, env, j, ev, hl, h => by
    unfold setPar at h
    by_cases e : i = j
    · subst e
      by_cases hi : i < (setPar is os env).length
      · rw [List.getElem?_set_self hi] at h
        cases h
        refine .inl ⟨0, o, rfl, rfl, ?_⟩
        unfold freB
        cases o.tag <;> rfl
      · rw [List.getElem?_eq_none (by simpa using hi)] at h; cases h
    · rw [List.getElem?_set_ne e] at h
      rcases setPar_at (by simpa using hl) h with ⟨k, p, h1, h2, h3⟩ | ⟨h1, h2⟩
      · exact .inl ⟨k + 1, p, by simpa using h1, by simpa using h2, h3⟩
      · exact .inr ⟨by simp only [List.mem_cons, not_or]; exact ⟨fun z => e z.symm, h1⟩, h2⟩
theorem setPar_len : ∀ (is : List Nat) (os : List Out) (env : List (Option EV)), (setPar is os env).length = env.length
  | [], _, _ => rfl
  | _ :: _, [], _ => rfl
  | i :: is, o :: os, env => by unfold setPar; rw [List.length_set, setPar_len is os]
theorem ros_apart : ∀ {os : List Out} {xs : List V}, ROs K ρ st.env W σ H H0 os xs → ∀ {k k' : Nat} {o o' : Out} {a : Addr}, k < k' → os[k]? = some o → os[k']? = some o' → o.tag = .fre → o'.tag = .fre → xs[k]? = some (V.ref a) → xs[k']? = some (V.ref a) → False
  | _, _, .nil, k, k', o, o', a, _, e, _, _, _, _, _ => by simp at e
  | _, _, .cons x y z, k, 0, o, o', a, hlt, _, _, _, _, _, _ => by omega
  | _, _, .cons x y z, 0, k' + 1, o, o', a, hlt, e1, e2, t1, t2, g1, g2 => by
    simp at e1 g1
    subst e1 g1
    exact z t1 k' o' _ (by simpa using e2) (by simpa using g2) t2 rfl
  | _, _, .cons x y z, k + 1, k' + 1, o, o', a, hlt, e1, e2, t1, t2, g1, g2 => ros_apart (k := k) (k' := k') (a := a) y (by omega) (by simpa using e1) (by simpa using e2) t1 t2 (by simpa using g1) (by simpa using g2)
/-- stored to slots -/
theorem store {os : List Out} {xs : List V} {is : List Nat} {σ' : L2.St} (r0 : Rel K ρ0 st0 W0 σ H0) (s : Step K ρ0 st0 W0 σ H0 ρ st W σ H) (h : ROs K ρ st.env W σ H H0 os xs) (hl : os.length = is.length) (nd : is.Nodup) (hs : SetOk is xs σ σ') :
    ∃ W', Step K ρ0 st0 W0 σ H0 ρ { frzA os st with env := setPar is os (frzA os st).env } W' σ' H := by
  obtain ⟨W', s1, lain⟩ := freezeS r0 s h
  have r1 := s1.rel
  have xl := h.length
  -- the value at a place that is stored to
  have val : ∀ (k : Nat) (i : Nat) (o : Out), is[k]? = some i → os[k]? = some o → ∃ x, xs[k]? = some x ∧ σ'[i]? = some (some x) ∧ Lain K ρ (frzA os st).env W' σ H H0 o x := by
    intro k i o e1 e2
    have hk : k < xs.length := by rw [← xl]; exact (List.getElem?_eq_some_iff.mp e2).1
    exact ⟨xs[k], List.getElem?_eq_getElem hk, hs.at_ k i _ e1 (List.getElem?_eq_getElem hk), lain k o _ e2 (List.getElem?_eq_getElem hk)⟩
  have own : ∀ (j : Nat) (val : Val), (setPar is os (frzA os st).env)[j]? = some (some ⟨true, val⟩) →
      (∃ (k : Nat) (o : Out) (a : Addr) (d : D), is[k]? = some j ∧ os[k]? = some o ∧ o.tag = .fre ∧ val = .dat d ∧ xs[k]? = some (.ref a) ∧ σ'[j]? = some (some (.ref a)) ∧ W' a ∧ RO W' H a d ∧ ¬ Lc ρ (frzA os st).env σ a ∧ H0 a = none) ∨
      (j ∉ is ∧ (frzA os st).env[j]? = some (some ⟨true, val⟩) ∧ σ'[j]? = σ[j]?) := by
    intro j v hj
    rcases setPar_at hl hj with ⟨k, o, h1, h2, h3⟩ | ⟨h1, h2⟩
    · left
      obtain ⟨x, g1, g2, g3⟩ := val k j o h1 h2
      have hf : freB o = true := (congrArg EV.own h3).symm
      have hv : v = o.val := congrArg EV.val h3
      rcases g3 with ⟨z, _⟩ | ⟨_, a, d, z1, rfl, z3, z4, z5, z6⟩
      · rw [hf] at z; cases z
      · refine ⟨k, o, a, d, h1, h2, ?_, hv.trans z1, g1, g2, z3, z4, z5, z6⟩
        unfold freB at hf
        split at hf
        · assumption
        · cases hf
    · exact .inr ⟨h1, h2, hs.off j h1⟩
  refine ⟨W', ⟨⟨r1.s, ?_, fun j v hj => ?_, fun j v hj => ?_, fun i j vi vj a h1 h2 h3 h4 => ?_⟩, s1.fr, s1.pre, fun a l => ?_⟩⟩
  · show (setPar is os (frzA os st).env).length = _
    rw [setPar_len, hs.len]
    exact r1.len
  · rcases setPar_at hl hj with ⟨k, o, h1, h2, h3⟩ | ⟨h1, h2⟩
    · obtain ⟨x, g1, g2, g3⟩ := val k j o h1 h2
      have hf : freB o = false := (congrArg EV.own h3).symm
      have hv : v = o.val := congrArg EV.val h3
      rcases g3 with ⟨_, z⟩ | ⟨z, _⟩
      · exact ⟨x, g2, hv ▸ z⟩
      · rw [hf] at z; cases z
    · obtain ⟨x, g1, g2⟩ := r1.fz j v h2
      exact ⟨x, (hs.off j h1).trans g1, g2⟩
  · rcases own j v hj with ⟨k, o, a, d, h1, h2, h3, h4, h5, h6, h7, h8, h9, _⟩ | ⟨h1, h2, h3⟩
    · exact ⟨a, d, h4, h6, h7, h8, fun z => h9 (.inl z)⟩
    · obtain ⟨a, d, g1, g2, g3⟩ := r1.ow j v h2
      exact ⟨a, d, g1, h3.trans g2, g3⟩
  · rcases own i vi h1 with ⟨k, o, b, d, p1, p2, p3, p4, p5, p6, p7, p8, p9, _⟩ | ⟨p1, p2, p3⟩ <;> rcases own j vj h2 with ⟨k', o', b', d', q1, q2, q3, q4, q5, q6, q7, q8, q9, _⟩ | ⟨q1, q2, q3⟩
    · rw [h3] at p6; cases p6
      rw [h4] at q6; cases q6
      have : k = k' := by
        rcases Nat.lt_trichotomy k k' with z | z | z
        · exact (ros_apart h z p2 q2 p3 q3 p5 q5).elim
        · exact z
        · exact (ros_apart h z q2 p2 q3 p3 q5 p5).elim
      subst this
      rw [p1] at q1
      exact Option.some.inj q1
    · rw [h3] at p6; cases p6
      exact (p9 (.inr ⟨j, vj, q2, q3 ▸ h4⟩)).elim
    · rw [h4] at q6; cases q6
      exact (q9 (.inr ⟨i, vi, p2, p3 ▸ h3⟩)).elim
    · exact r1.ap i j vi vj a p2 q2 (p3 ▸ h3) (q3 ▸ h4)
  · rcases l with l | ⟨j, v, l1, l2⟩
    · exact s1.sub a (.inl l)
    · rcases own j v l1 with ⟨k, o, b, d, p1, p2, p3, p4, p5, p6, p7, p8, p9, p10⟩ | ⟨p1, p2, p3⟩
      · have l2 : σ'[j]? = some (some (.ref a)) := l2
        rw [l2] at p6; cases p6
        exact .inr p10
      · exact s1.sub a (.inr ⟨j, v, p2, p3 ▸ l2⟩)
end

/-! ### several plain names at once -/
def setL : List Nat → List V → L2.St → L2.St
  | i :: is, v :: vs, σ => setL is vs (σ.set i (some v))
  | _, _, σ => σ
theorem setL_len : ∀ (is : List Nat) (vs : List V) (σ : L2.St), (setL is vs σ).length = σ.length
  | [], _, _ => rfl
  | _ :: _, [], _ => rfl
  | i :: is, v :: vs, σ => by unfold setL; rw [setL_len is vs, List.length_set]
theorem setL_off : ∀ {is : List Nat} {vs : List V} {σ : L2.St} {j : Nat}, j ∉ is → (setL is vs σ)[j]? = σ[j]?
  | [], _, _, _, _ => rfl
  | _ :: _, [], _, _, _ => rfl
  | i :: is, v :: vs, σ, j, h => by
    simp only [List.mem_cons, not_or] at h
    unfold setL
    rw [setL_off h.2, List.getElem?_set_ne (fun z => h.1 z.symm)]
theorem setL_at : ∀ {is : List Nat} {vs : List V} {σ : L2.St} {k i : Nat} {v : V}, is.Nodup → (∀ i ∈ is, i < σ.length) → is[k]? = some i → vs[k]? = some v → (setL is vs σ)[i]? = some (some v)
  | [], _, _, _, _, _, _, _, e, _ => by simp at e
  | _ :: _, [], _, _, _, _, _, _, _, e => by simp at e
  | j :: is, w :: vs, σ, 0, i, v, nd, hl, e1, e2 => by
    simp at e1 e2
    subst e1 e2
    unfold setL
    rw [setL_off (List.nodup_cons.mp nd).1, List.getElem?_set_self (hl _ List.mem_cons_self)]
  | j :: is, w :: vs, σ, k + 1, i, v, nd, hl, e1, e2 => by
    unfold setL
    exact setL_at (k := k) (List.nodup_cons.mp nd).2 (fun i hi => by rw [List.length_set]; exact hl i (List.mem_cons_of_mem _ hi)) (by simpa using e1) (by simpa using e2)
theorem setL_ok {is : List Nat} {vs : List V} {σ : L2.St} (nd : is.Nodup) (hl : ∀ i ∈ is, i < σ.length) : SetOk is vs σ (setL is vs σ) := ⟨setL_len _ _ _, fun k i v => setL_at nd hl, fun j => setL_off⟩
theorem SetOk.rev {is : List Nat} {vs : List V} {σ σ' : L2.St} (hl : vs.length = is.length) (h : SetOk is.reverse vs.reverse σ σ') : SetOk is vs σ σ' := by
  refine ⟨h.len, fun k i v e1 e2 => ?_, fun j hj => h.off j (by simpa using hj)⟩
  have h1 := (List.getElem?_eq_some_iff.mp e1).1
  have h2 := (List.getElem?_eq_some_iff.mp e2).1
  refine h.at_ (is.length - 1 - k) i v ?_ ?_
  · rw [List.getElem?_reverse (by omega)]
    have : is.length - 1 - (is.length - 1 - k) = k := by omega
    rw [this]; exact e1
  · rw [List.getElem?_reverse (by omega)]
    have : vs.length - 1 - (is.length - 1 - k) = k := by omega
    rw [this]; exact e2
theorem SetOk.one {i : Nat} {v : V} {σ : L2.St} (h : i < σ.length) : SetOk [i] [v] σ (σ.set i (some v)) := setL_ok (is := [i]) (vs := [v]) (by simp) (by simpa using h)
/-- the slots xs, in order -/
def At (N : List Str) (is : List Nat) (xs : List Str) : Prop := Paired (fun i x => N[i]? = some x) is xs
theorem store_all {X : Cx} {pins : List (Addr × Obj)} {E : Value → Shared → Prop} {Q : Unit → Shared → Prop} (hN : X.N.Nodup) : ∀ {is : List Nat} {xs : List Str} {vs : List V} {us : List Value} {σ : L2.St} {H : Hp} {s : Shared}, At X.N is xs →
    (∀ x ∈ xs, Loc X.env.scope x ∧ (X.fn x = true ∨ X.env.scope.names.lookup x = some .local)) → Inv X pins σ H s → Vals vs us → vs.length = is.length →
    (∀ s', Inv X pins (setL is vs σ) H s' → Q () s') → wpAny (model X.prog X.w) X.A (assignInOrder (xs.map fun x v => bindName X.env x v) us) Q E s
  | _, _, _, _, σ, H, s, .nil, _, I, r, hl, h => by
    cases r with
    | nil => exact assignInOrder_nil (h s I)
    | cons _ _ => simp at hl
  | _, _, _, _, σ, H, s, .cons a b, hx, I, r, hl, h => by
    cases r with
    | nil => simp at hl
    | cons r rr =>
      obtain ⟨l1, l2⟩ := hx _ List.mem_cons_self
      exact assignInOrder_cons (wpAny_bindName (store_ok I hN a l1 r (fun s2 I2 => store_all hN b (fun x hm => hx x (List.mem_cons_of_mem _ hm)) I2 rr (by simpa using hl) h) l2))
end Ev
end

section
set_option Elab.async false
set_option linter.all false
set_option maxRecDepth 100000
/-! Ev21: statements: stores. -/
namespace Ev
open PySem PySem.Spec PyProof.Rows L2

/-! ### readings of statements -/
structure EndOk (K : PySem.W.Frag) (ρ : List Addr) (st : Stt) (W : Addr → Prop) (σ : L2.St) (H : Hp) (E : EndsP) (D : L2.Ends) : Prop where
  nx : ∀ st' ρ' W' σ' H', E.nx st' → Step K ρ st W σ H ρ' st' W' σ' H' → D.nx σ' H'
  rt : ∀ o st' ρ' W' σ' H' x, E.rt o st' → Step K ρ st W σ H ρ' st' W' σ' H' → RT K ρ' st'.env W' σ' H' H o x → D.rt x H'
  bk : ∀ st' ρ' W' σ' H', E.bk st' → Step K ρ st W σ H ρ' st' W' σ' H' → D.bk σ' H'
  ct : ∀ st' ρ' W' σ' H', E.ct st' → Step K ρ st W σ H ρ' st' W' σ' H' → D.ct σ' H'
section
variable {K : PySem.W.Frag} {ρ ρ1 : List Addr} {st st1 : Stt} {W W1 : Addr → Prop} {σ σ1 : L2.St} {H H1 : Hp} {E : EndsP} {D : L2.Ends}
theorem EndOk.later (e : EndOk K ρ st W σ H E D) (r : Rel K ρ st W σ H) (s : Step K ρ st W σ H ρ1 st1 W1 σ1 H1) : EndOk K ρ1 st1 W1 σ1 H1 E D where
  nx := fun _ _ _ _ _ p q => e.nx _ _ _ _ _ p (s.trans r q)
  rt := fun _ _ _ _ _ _ _ p q t => e.rt _ _ _ _ _ _ _ p (s.trans r q) (t.start fun a n => s.free n)
  bk := fun _ _ _ _ _ p q => e.bk _ _ _ _ _ p (s.trans r q)
  ct := fun _ _ _ _ _ p q => e.ct _ _ _ _ _ p (s.trans r q)
end
abbrev PreS := EndsP → Stt → Prop
def TS' (K : PySem.W.Frag) (wp : PreS) : TS := fun D σ H => ∃ ρ st W E, Rel K ρ st W σ H ∧ wp E st ∧ EndOk K ρ st W σ H E D
def SoundS (X : Cx) (S : SpecK) (s : Stmt) (is : IS) : Prop := PS X s (TS' X.K (wpS S is))
def SoundSs (X : Cx) (S : SpecK) (ss : List Stmt) (is : ISs) : Prop := PSs X ss (TS' X.K (wpSs S is))

/-! ### several names at once -/
def swNames (sc : Scope) (ts : List Expr) : List Str := ts.filterMap fun
  | .Name id pos => if sc.names.lookup id == some .local && pos.line == (ts.head?.map (·.pos.line)).getD 0 then some id else none
  | _ => none
/-- stored from the right -/
def swK (sc : Scope) (ts vs : List Expr) : Bool := (ts.length == 2 || ts.length == 3) && ((swNames sc ts).length == ts.length && (swNames sc ts).eraseDups.length == (swNames sc ts).length) && !vs.all (foldedForSure 8)
def swOk (sc : Scope) (ts vs : List Expr) : Bool := !swK sc ts vs || !vs.all (constantsAlone 8)
def swCore (tl vl : Nat) (other star : Bool) (names : List Str) (folded alone : Bool) : Sem (Option (List Str)) := do
  if !(tl == 2 || tl == 3) || vl != tl || other then return none
  if star then return none
  if names.length != tl || names.eraseDups.length != names.length then return none
  if folded then return none
  if alone then unsupported "assign.tuple-of-constant-expressions:order-of-the-stores"
  return some names
theorem sw_core (ts vs : List Expr) (k k2 : Nat) (p p2 : Pos) (env : Env) : swappedStores [.Tuple ts k p] (.Tuple vs k2 p2) env =
    swCore ts.length vs.length (env.blockKind != .function) (vs.any fun | .Starred .. => true | _ => false)
      (ts.filterMap fun
        | .Name id pos => if env.kindOf id == some .local && pos.line == (ts.head?.map (·.pos.line)).getD 0 then some id else none
        | _ => none) (vs.all (foldedForSure 8)) (vs.all (constantsAlone 8)) := rfl
theorem fm_congr {α β : Type} {f g : α → Option β} : ∀ {l : List α}, (∀ x ∈ l, f x = g x) → l.filterMap f = l.filterMap g
  | [], _ => rfl
  | x :: l, h => by rw [List.filterMap_cons, List.filterMap_cons, h x List.mem_cons_self, fm_congr fun y hy => h y (List.mem_cons_of_mem _ hy)]
theorem swCore_eq {n : Nat} {names : List Str} {folded alone : Bool} (ok : (!((n == 2 || n == 3) && (names.length == n && names.eraseDups.length == names.length) && !folded) || !alone) = true) :
    swCore n n false false names folded alone = pure (if (n == 2 || n == 3) && (names.length == n && names.eraseDups.length == names.length) && !folded then some names else none) := by
  unfold swCore
  cases c1 : (n == 2 || n == 3) <;> cases c2 : (names.length == n) <;> cases c3 : (names.eraseDups.length == names.length) <;> cases folded <;> cases alone <;> simp [c1, c2, c3, bne] at ok ⊢
theorem sw_eq {sc : Scope} {ts vs : List Expr} {k k2 : Nat} {p p2 : Pos} {env : Env} (hk : env.scope.kind = .function) (hl : vs.length = ts.length) (hs : vs.any starB = false) (hn : ∀ id p, Expr.Name id p ∈ ts → env.kindOf id = sc.names.lookup id) (ok : swOk sc ts vs = true) :
    swappedStores [.Tuple ts k p] (.Tuple vs k2 p2) env = pure (if swK sc ts vs then some (swNames sc ts) else none) := by
  have hb : env.blockKind = .function := by unfold Env.blockKind; rw [hk]; rfl
  have hst : (vs.any fun | .Starred .. => true | _ => false) = false := by
    refine Eq.trans (congrArg vs.any ?_) hs
    funext e
    cases e <;> rfl
  have hnm : (ts.filterMap fun
      | .Name id pos => if env.kindOf id == some .local && pos.line == (ts.head?.map (·.pos.line)).getD 0 then some id else none
      | _ => none) = swNames sc ts := by
    unfold swNames
    refine fm_congr fun e he => ?_
    cases e with
    | Name id pos => simp only [hn id pos he]
    | _ => rfl
  rw [sw_core, hst, hnm, hb, hl]
  exact swCore_eq ok
def nmB (N : List Str) (sc : Scope) : List Nat → List Expr → Bool
  | [], [] => true
  | i :: is, .Name x _ :: ts => decide (N[i]? = some x) && locB sc x && nmB N sc is ts
  | _, _ => false
def nmOf : List Expr → List Str
  | .Name x _ :: ts => x :: nmOf ts
  | _ :: ts => nmOf ts
  | [] => []
theorem gTs_nm {K : PySem.W.Frag} : ∀ {is : List Nat} {vs : List V} {σ : L2.St} {H : Hp} {Q : L2.St → Hp → Prop}, vs.length = is.length → Q (setL is vs σ) H → gTs K (is.map Tg.nm) vs σ H Q
  | [], [], σ, H, Q, _, h => ⟨rfl, h⟩
  | [], _ :: _, _, _, _, hl, _ => by simp at hl
  | _ :: _, [], _, _, _, hl, _ => by simp at hl
  | i :: is, v :: vs, σ, H, Q, hl, h => ⟨v, vs, rfl, gTs_nm (K := K) (is := is) (by simpa using hl) h⟩
section
variable {F : List String} {N : List Str} {S : SpecK} {X : Cx} {sc : Scope}
theorem nm_mTs : ∀ {is : List Nat} {ts : List Expr}, nmB N sc is ts = true → mTs N sc (is.map Tg.nm) ts = true ∧ At N is (nmOf ts) ∧ (∀ x ∈ nmOf ts, locB sc x = true) ∧ is.length = ts.length ∧ (nmOf ts).length = ts.length ∧ (∀ e ∈ ts, ∃ x p, e = .Name x p ∧ locB sc x = true)
  | [], [], _ => ⟨rfl, .nil, fun x h => absurd h (by simp [nmOf]), rfl, rfl, fun e h => absurd h (by simp)⟩
  | [], _ :: _, h => by simp [nmB] at h
  | _ :: _, [], h => by simp [nmB] at h
  | i :: is, e :: ts, h => by
    cases e with
    | Name x p =>
      simp only [nmB, Bool.and_eq_true, decide_eq_true_eq] at h
      obtain ⟨⟨h1, h2⟩, h3⟩ := h
      obtain ⟨a, b, c, d, e, f⟩ := nm_mTs h3
      refine ⟨by simp [mTs, mT, h1, h2, starB]; exact a, .cons h1 b, fun y hy => ?_, by simp [d], by simp [nmOf, e], fun y hy => ?_⟩
      · rcases List.mem_cons.mp hy with rfl | hy
        · exact h2
        · exact c y hy
      · rcases List.mem_cons.mp hy with rfl | hy
        · exact ⟨x, p, rfl, h2⟩
        · exact f y hy
    | _ => simp [nmB] at h
theorem locB_kind (c : XOk F N S X sc) {x : Str} (h : locB sc x = true) : X.env.kindOf x = sc.names.lookup x := by
  unfold locB at h
  split at h
  · rename_i e; rw [e]; exact c.vis x _ e (by decide)
  · rename_i e; rw [e]; exact c.vis x _ e (by decide)
  · cases h
theorem swNames_all {sc : Scope} : ∀ {ts l : List Expr} {n : Nat}, (∀ e ∈ ts, ∃ x p, e = Expr.Name x p) → ((ts.filterMap fun
      | .Name id pos => if sc.names.lookup id == some .local && pos.line == n then some id else none
      | _ => none).length == ts.length) = true → (ts.filterMap fun
      | .Name id pos => if sc.names.lookup id == some .local && pos.line == n then some id else none
      | _ => none) = nmOf ts
  | [], l, n, _, _ => rfl
  | e :: ts, l, n, h, hl => by
    obtain ⟨x, p, rfl⟩ := h e List.mem_cons_self
    have le : ∀ ts : List Expr, (ts.filterMap fun
      | .Name id pos => if sc.names.lookup id == some .local && pos.line == n then some id else none
      | _ => none).length ≤ ts.length := fun ts => List.length_filterMap_le _ _
    by_cases hc : (sc.names.lookup x == some NameKind.local && p.line == n) = true
    · rw [List.filterMap_cons] at hl ⊢
      simp only [hc, if_true] at hl ⊢
      have ih := swNames_all (sc := sc) (ts := ts) (l := l) (n := n) (fun e he => h e (List.mem_cons_of_mem _ he)) (by simpa using hl)
      rw [ih]; rfl
    · rw [List.filterMap_cons] at hl
      simp only [hc] at hl
      have l1 := le ts
      have l2 : (ts.filterMap fun
        | .Name id pos => if sc.names.lookup id == some .local && pos.line == n then some id else none
        | _ => none).length = ts.length + 1 := by
        simp only [Bool.not_eq_true] at hc
        simp only [hc, Bool.false_eq_true, if_false, List.length_cons, beq_iff_eq] at hl
        exact hl
      rw [l2] at l1
      omega
theorem nodup_rev {l : List Nat} (h : l.Nodup) : l.reverse.Nodup := by unfold List.Nodup; rw [List.pairwise_reverse]; exact h.imp fun z => z.symm
theorem paired_rev {α β : Type} {G : α → β → Prop} {l : List α} {m : List β} (h : Paired G l m) : Paired G l.reverse m.reverse := by
  induction h with
  | nil => exact .nil
  | cons a b ih => rw [List.reverse_cons, List.reverse_cons]; exact ih.snoc a
/-- a, b, .. = x, y, ..: to plain names -/
def tParN (is : List Nat) (ta : TA) : TS := fun D σ H => ta σ H fun vs H1 => vs.length = is.length ∧ vs.length ≤ sizeLine ∧ ∀ σ', ((∀ i ∈ is, i < σ.length) → SetOk is vs σ σ') → D.nx σ' H1
theorem ps_parN {is : List Nat} {ts vs : List Expr} {ta : TA} {k k2 : Nat} {p p2 pos : Pos} (c : XOk F N S X sc) (hn : nmB N sc is ts = true) (nd : is.Nodup) (hl : vs.length = ts.length) (hs : vs.any starB = false) (ok : swOk sc ts vs = true)
    (ha : PA X vs ta) : PS X (.Assign [.Tuple ts k p] (.Tuple vs k2 p2) pos) (tParN is ta) := by
  obtain ⟨m1, m2, m3, m4, m5, m6⟩ := nm_mTs hn
  refine ⟨fun pins s σ H D I h => ?_⟩
  have sw := sw_eq (k := k) (p := p) (k2 := k2) (p2 := p2) (sc := sc) I.ok.kind hl hs (fun id q hm => by
    obtain ⟨x, q', e, hx⟩ := m6 _ hm
    cases e
    exact locB_kind c hx) ok
  rw [exec_Assign_arm]
  refine wpAny_bind (wpAny_standAt ?_)
  rw [show swapsWithSole [.Tuple ts k p] (.Tuple vs k2 p2) pos.line X.env = pure false from rfl]
  refine wpAny_bind (wpAny_pure ?_)
  rw [if_neg (by decide)]
  refine wpAny_bind (Tuple_ (thn (ha.run _ pins s σ H _ I h) fun us s1 ⟨xs, H1, I1, r1, hxl, hz, q1⟩ => ?_))
  have ul := r1.length
  refine wpAny_newObj_type ?_ (by show us.length ≤ sizeLine; omega)
  have I2 : Inv X pins σ H1 { s1 with heap := s1.heap.push { cls := .type "tuple", data := .seq us.toArray } } := I1.kept (t' := s1.toks) fun b o e => Heap.get?_push_of_some _ e
  have hN : X.N.Nodup := by rw [c.hN]; exact c.nd
  rw [sw]
  refine wpAny_bind (wpAny_pure ?_)
  by_cases hsw : swK sc ts vs = true
  · rw [if_pos hsw]
    have names : swNames sc ts = nmOf ts := by
      unfold swK at hsw
      simp only [Bool.and_eq_true] at hsw
      exact swNames_all (l := ts) (fun e he => by obtain ⟨x, p, e, _⟩ := m6 e he; exact ⟨x, p, e⟩) hsw.1.2.1
    rw [names]
    show wpAny (model X.prog X.w) X.A (do rule "assign.swapped-stores"; let items ← unpackItems (.ref s1.heap.objs.size) (nmOf ts).length none; assignInOrder ((nmOf ts).reverse.map fun n => bindName X.env n) items.reverse; pure Flow.next) _ _ _
    have e1 : (nmOf ts).length = us.toArray.size := by simp only [List.size_toArray]; omega
    rw [e1]
    refine wpAny_bind (wpAny_rule (wpAny_bind (unpackItems_tuple (I.ok.hd c.calm) (IsTup.new s1.heap _) fun h' hx' => ?_)))
    have I3 := I2.kept (h' := h') (t' := s1.toks) fun b o e => hx' b o (Nat.ne_of_lt (Heap.lt_size e)) e
    have rr : Vals xs.reverse us.reverse := paired_rev r1
    have ar : At X.N is.reverse (nmOf ts).reverse := by
      rw [c.hN]
      exact paired_rev m2
    refine wpAny_bind (store_all hN ar (fun x hx => ?_) I3 (by simpa using rr) (by simpa using hxl) fun s2 I4 => wpAny_pure ⟨_, H1, I4, q1 _ fun hlt => ?_⟩)
    · have := m3 x (by simpa using hx)
      exact ⟨c.locOk this, c.fnok x this⟩
    · exact SetOk.rev hxl (setL_ok (nodup_rev nd) (by simpa using hlt))
  · rw [if_neg hsw]
    show wpAny (model X.prog X.w) X.A (do assign (.Tuple ts k p) X.env (.ref s1.heap.objs.size); pure Flow.next) _ _ _
    obtain ⟨g1, g2, g3⟩ := pgs_of c (is.map Tg.nm) ts m1
    refine wpAny_bind (assign_Tuple_tuple (I.ok.hd c.calm) (IsTup.new s1.heap _) (by rw [g2]; simp; omega) g3 fun h' hx' => ?_)
    have I3 := I2.kept (h' := h') (t' := s1.toks) fun b o e => hx' b o (Nat.ne_of_lt (Heap.lt_size e)) e
    refine thn (g1.run pins _ σ H1 xs us _ I3 r1 (gTs_nm hxl (Q := fun σ' H' => σ' = setL is xs σ ∧ H' = H1) ⟨rfl, rfl⟩)) fun _ s2 ⟨σ', H', I4, e1, e2⟩ => ?_
    subst e1 e2
    exact wpAny_pure ⟨_, _, I4, q1 _ fun hlt => setL_ok nd hlt⟩
end
end Ev
end

section
set_option Elab.async false
set_option linter.all false
set_option maxRecDepth 100000
/-! Ev22: o[k] = v. -/
namespace Ev
open PySem PySem.Spec PyProof.Rows L2

section
variable {W : Addr → Prop} {H : Hp}
theorem keyEq_T (a b : List Key) : keyEq (.tuple (a.map keyD)) (.tuple (b.map keyD)) = decide (a = b) := eqvAll_keyD a b
end

def rSetU (X : Cx) : TSet := fun o i v H Q => ∃ H1, (∀ pins σ s, Inv X pins σ H s → Inv X pins σ H1 s) ∧ (rSetL o i v H1 Q ∨ rSetD o i v H1 Q)
theorem set_U {X : Cx} (hu : X.A.units + 1 < cLine) : PSet X (rSetU X) := by
  intro pins s σ H o i v ov iv u Q I ro ri rv h
  obtain ⟨H1, h1, h2 | h2⟩ := h
  · exact set_list pins s σ H1 o i v ov iv u Q (h1 pins σ s I) ro ri rv h2
  · exact set_dict hu pins s σ H1 o i v ov iv u Q (h1 pins σ s I) ro ri rv h2
/-- a new entry in a dict of one's own -/
theorem dput {X : Cx} {W : Addr → Prop} {H : Hp} {a : Addr} {es : List (PyData × PyData)} {y x : V} {kd d : PyData} (h : DR W H a es) (hy : R W H y kd) (ok : keyOk kd = true) (hk : kinds kd es = true) (rx : R W H x d) (hl : es.length < SL) :
    ∃ H1 o, (∀ pins σ s, Inv X pins σ H s → Inv X pins σ H1 s) ∧ DPut H1 a y x (upd H a o) ∧ (∀ H', H' a = some o → Pres W H W H' → RO W H' a (.dict (putD kd d es))) := by
  have hsl : SL = sizeLine := rfl
  cases ht : isTup kd with
  | false =>
    obtain ⟨q, rfl, rfl⟩ := key_int hy ok ht
    rcases h with ⟨kvs, e, k1, r⟩ | ⟨kvs, e, k1, r⟩
    · obtain ⟨p1, p2⟩ := put_gen keyD keyEq_keyD (k := q) rx k1 r
      have hn : kvs.length < sizeLine := by have := r.length; simp only [List.length_map] at this; omega
      exact ⟨H, _, fun _ _ _ I => I, .k e hn, fun H' e' pr => .inl ⟨_, e', p1, p2.pres pr⟩⟩
    · obtain ⟨rfl, rfl⟩ := kinds_T k1 hk ht
      obtain ⟨p1, p2⟩ := put_gen keyD keyEq_keyD (k := q) (kvs := []) (es := []) rx rfl .nil
      refine ⟨upd H a (.dK []), _, fun _ _ _ I => Inv.flipK I e, ?_, fun H' e' pr => .inl ⟨_, e', p1, p2.pres pr⟩⟩
      have := DPut.k (k := q) (v := x) (upd_same (H := H) (a := a) (o := .dK [])) (show 0 < sizeLine by decide)
      rwa [upd_upd] at this
  | true =>
    obtain ⟨b, ks, rfl, eb, rfl⟩ := key_tup hy ok ht
    rcases h with ⟨kvs, e, k1, r⟩ | ⟨kvs, e, k1, r⟩
    · obtain ⟨rfl, rfl⟩ := kinds_K k1 hk ht
      have ne : b ≠ a := ne_of eb e (by intro z; cases z)
      obtain ⟨p1, p2⟩ := put_gen (fun l : List Key => PyData.tuple (l.map keyD)) keyEq_T (k := ks) (kvs := []) (es := []) rx rfl .nil
      refine ⟨upd H a (.dT []), _, fun _ _ _ I => Inv.flipT I e, ?_, fun H' e' pr => .inr ⟨_, e', p1, p2.pres pr⟩⟩
      have := DPut.t (k := ks) (v := x) (upd_same (H := H) (a := a) (o := .dT [])) (by rw [upd_ne ne]; exact eb) (show 0 < sizeLine by decide)
      rwa [upd_upd] at this
    · obtain ⟨p1, p2⟩ := put_gen (fun l : List Key => PyData.tuple (l.map keyD)) keyEq_T (k := ks) rx k1 r
      have hn : kvs.length < sizeLine := by have := r.length; simp only [List.length_map] at this; omega
      exact ⟨H, _, fun _ _ _ I => I, .t e eb hn, fun H' e' pr => .inr ⟨_, e', p1, p2.pres pr⟩⟩
/-- a field of a record -/
theorem putF_map {ρ : List Addr} {x : Str} {v : V} {w : SV} (rw_ : RSV ρ w v) : ∀ {kvs : List (Key × V)} {fs : List (Str × SV)}, RFs ρ kvs fs → RFs ρ (kvs.map fun kv => if kv.1 = Sum.inr x then (kv.1, v) else kv) (putF x w fs)
  | _, _, .nil => .nil
  | _, _, .cons (a := p) (b := q) a b => by
    unfold putF
    rw [List.map_cons]
    refine .cons ?_ (putF_map rw_ b)
    by_cases e : q.1 = x
    · have e' : p.1 = Sum.inr x := by rw [a.1, e]
      rw [if_pos e, if_pos e']
      exact ⟨e', rw_⟩
    · have e' : p.1 ≠ Sum.inr x := fun z => e (by rw [a.1] at z; exact Sum.inr.inj z)
      rw [if_neg e, if_neg e']
      exact a
theorem putF_any {ρ : List Addr} {x : Str} : ∀ {kvs : List (Key × V)} {fs : List (Str × SV)}, RFs ρ kvs fs → (fs.lookup x).isSome = true → (kvs.any fun kv => decide (kv.1 = (Sum.inr x : Key))) = true
  | _, _, .nil, h => by simp at h
  | _, _, .cons (a := p) (b := q) a b, h => by
    rw [List.any_cons]
    by_cases e : q.1 = x
    · simp [a.1, e]
    · obtain ⟨q1, q2⟩ := q
      have : (x == q1) = false := by simpa using fun z => e z.symm
      rw [List.lookup_cons, this] at h
      rw [putF_any b h]
      simp
theorem putF_ok {ρ : List Addr} {x : Str} {v : V} {w : SV} (rw_ : RSV ρ w v) {kvs : List (Key × V)} {fs : List (Str × SV)} (h : RFs ρ kvs fs) (hx : (fs.lookup x).isSome = true) : RFs ρ (putK kvs (.inr x) v) (putF x w fs) := by
  unfold putK
  rw [if_pos (putF_any h hx)]
  exact putF_map rw_ h
theorem putK_lt {κ : Type} [DecidableEq κ] {kvs : List (κ × V)} {k : κ} {v : V} (h : (kvs.any fun kv => decide (kv.1 = k)) = true) : (putK kvs k v).length = kvs.length := by
  unfold putK
  rw [if_pos h, List.length_map]

/-! ### the statement -/
section
variable {F : List String} {N : List Str} {S : SpecK} {X : Cx} {sc : Scope}
/-- where an out stands that is put to -/
def Tgp (ρ : List Addr) (σ : L2.St) (o : Out) (x : V) : Prop := match o.tag, o.val with
  | .slot i, _ => σ[i]? = some (some x)
  | .frz, .ref j => ∃ a, ρ[j]? = some a ∧ x = .ref a
  | _, _ => True
theorem RT.tgp {K : PySem.W.Frag} {ρ : List Addr} {env : List (Option EV)} {W : Addr → Prop} {σ : L2.St} {H H0 : Hp} {o : Out} {x : V} (h : RT K ρ env W σ H H0 o x) : Tgp ρ σ o x := by
  unfold Tgp
  split
  · rename_i i e1
    unfold RT at h
    rw [e1] at h
    exact h.2
  · rename_i j e1 e2
    unfold RT at h
    rw [e1, e2] at h
    exact h
  · trivial
theorem Tgp.later {ρ ρ' : List Addr} {σ : L2.St} {o : Out} {x : V} (h : Tgp ρ σ o x) (p : ρ <+: ρ') : Tgp ρ' σ o x := by
  unfold Tgp at h ⊢
  split
  · rename_i e1
    simp only [e1] at h
    exact h
  · rename_i e1 e2
    simp only [e1, e2] at h
    obtain ⟨a, h1, h2⟩ := h
    obtain ⟨t, rfl⟩ := p
    exact ⟨a, by rw [List.getElem?_append_left (List.getElem?_eq_some_iff.mp h1).1]; exact h1, h2⟩
  · trivial
theorem put_ok {ρ : List Addr} {st st4 : Stt} {W : Addr → Prop} {σ : L2.St} {H : Hp} {oo ok ov : Out} {x y z : V} (r : Rel X.K ρ (frz ov st) W σ H) (tv : RVal X.K ρ W H ov.val x) (to : Tgp ρ σ oo y) (tk : ∀ d, ok.val = .dat d → isFresh d = false → R W H z d)
    (hp : putS oo ok ov st = some st4) (Q : Hp → Prop) (k : ∀ H', Step X.K ρ (frz ov st) W σ H ρ st4 W σ H' → Q H') : rSetU X y z x H Q := by
  unfold putS at hp
  unfold Tgp at to
  split at hp
  · rename_i o1 i kd e1 e2
    simp only [e1] at to
    split at hp
    · rename_i es d e3 e4
      split at hp
      · rename_i hc
        obtain ⟨c1, c2, c3⟩ := hc
        cases hp
        rw [e4] at tv
        obtain ⟨a, d', hv, ha, wa, ro, nr⟩ := r.ow i _ e3
        cases hv
        rw [to] at ha; cases ha
        have nf : isFresh kd = false := by cases kd <;> first | rfl | simp [keyOk] at c1
        obtain ⟨H1, o, h1, h2, h3⟩ := dput (X := X) ro (tk kd e2 nf) c1 c2 tv c3
        refine ⟨H1, h1, .inr ⟨a, _, rfl, h2, k _ (r.put e3 to (h3 _ upd_same ?_))⟩⟩
        exact fun b q w e => ⟨w, by rw [upd_ne (fun z => w (by rw [z]; exact wa))]; exact e⟩
      · cases hp
    · rename_i ds d e3 e4
      split at hp
      · rename_i n
        split at hp
        · rename_i m hm
          cases hp
          rw [e4] at tv
          obtain ⟨a, d', hv, ha, wa, ro, nr⟩ := r.ow i _ e3
          cases hv
          rw [to] at ha; cases ha
          obtain ⟨xs, he, ra⟩ := ro
          obtain rfl := RR.int (tk (.int n) e2 rfl).rr
          refine ⟨H, fun _ _ _ I => I, .inl ⟨a, xs, n, m, rfl, rfl, he, by rw [ra.length]; exact hm, k _ (r.put e3 to ⟨_, upd_same, ?_⟩)⟩⟩
          have pr : Pres W H W (upd H a (.lst (xs.set m x))) := fun b q w e => ⟨w, by rw [upd_ne (fun z => w (by rw [z]; exact wa))]; exact e⟩
          exact (ra.set m tv).pres pr
        · cases hp
      · cases hp
    · cases hp
  · rename_i j fx e1 e2 e3
    simp only [e1, e2] at to
    obtain ⟨a, ha, rfl⟩ := to
    split at hp
    · rename_i fs n e4 e5
      split at hp
      · rename_i hc
        cases hp
        have e4' : (frz ov st).sto[j]? = some (.rcd fs) := by
          have : (frz ov st).sto = st.sto := by unfold frz; split <;> rfl
          rw [this]; exact e4
        rw [e5] at tv
        obtain rfl := RR.int (R.rr (d := .int n) tv)
        obtain rfl := RR.str (tk (.str fx) e3 rfl).rr
        obtain ⟨wa, kvs, he, rf⟩ := r.s.at_ j _ a e4' ha
        have hl : kvs.length < sizeLine := by
          have h1 := Paired.length rf
          have h2 : SL = sizeLine := rfl
          omega
        have st : Step X.K ρ (frz ov st) W σ H ρ { frz ov st with sto := st.sto.set j (.rcd (putF fx (.int n) fs)) } W σ (upd H a (.dK (putK kvs (.inr fx) (.int n)))) := by
          have e : st.sto = (frz ov st).sto := by unfold frz; split <;> rfl
          rw [e]
          exact r.puts e4' ha ⟨_, upd_same, putF_ok (w := .int n) (show RSV ρ (.int n) (.int n) from rfl) rf hc.1⟩
        exact ⟨H, fun _ _ _ I => I, .inr ⟨a, _, rfl, DPut.k (k := Sum.inr fx) he hl, k _ st⟩⟩
      · cases hp
    · cases hp
  · cases hp
theorem ss_put {o k e : IE} {o' k' e' : Expr} {p pos : Pos} (c : XOk F N S X sc) (he : Sound X S e' e) (ho : Sound X S o' o) (hk : Sound X S k' k) (hs : sliceB k' = false) (hsw : swapsWithSole [.Subscript o' k' p] e' pos.line X.env = pure false)
    (hst : swappedStores [.Subscript o' k' p] e' X.env = pure none) : SoundS X S (.Assign [.Subscript o' k' p] e' pos) (.put o k e) := by
  have hu : X.A.units + 1 < cLine := by have := c.room; omega
  refine (ps_asg he.pe (pg_sub (pos := p) ho.pe hk.pe (set_U hu) (fun v => by cases k' <;> first | rfl | simp [sliceB] at hs)) hsw hst rfl).weak fun D σ H h => ?_
  obtain ⟨ρ, st, W, E, r, w, en⟩ := h
  refine ⟨ρ, st, W, _, r, w, fun ov st1 ρ1 W1 H1 x p1 s1 t1 => ⟨ρ1, st1, W1, _, s1.rel, p1, fun oo st2 ρ2 W2 H2 y p2 s2 t2 => ⟨ρ2, st2, W2, _, s2.rel, p2, fun ok st3 ρ3 W3 H3 z p3 s3 t3 => ?_⟩⟩⟩
  obtain ⟨q1, q2, st4, hp, nx⟩ := p3
  have s123 := s1.trans r (s2.trans s1.rel s3)
  have u1 := t1.later (s2.trans s1.rel s3) s1.rel q1
  obtain ⟨W5, s5, pr, _, fz⟩ := freeze (os := [ov]) (xs := [x]) r s123 (.cons u1 .nil fun _ j o' x' h1 => by simp at h1)
  obtain ⟨x', hx', rv⟩ := fz 0 ov rfl
  simp at hx'
  subst hx'
  rw [frz_one] at s5
  exact put_ok s5.rel rv ((t2.tgp).later s3.pre) (fun d e f => (t3.sc s3.rel e f).pres pr) hp _ fun H' s6 => en.nx _ _ _ _ _ nx (s5.trans r s6)
theorem drop_gen {W : Addr → Prop} {H : Hp} {n : Int} : ∀ {kvs : List (Key × V)} {es : List (PyData × PyData)}, kvs.map (fun p => keyD p.1) = es.map (·.1) → RA W H (kvs.map (·.2)) (es.map (·.2)) →
    (dropK kvs (Sum.inl n)).map (fun p => keyD p.1) = (dropD n es).map (·.1) ∧ RA W H ((dropK kvs (Sum.inl n)).map (·.2)) ((dropD n es).map (·.2)) ∧ (lookD (.int n) es).isSome = (valV kvs (Sum.inl n)).isSome
  | [], [], _, _ => ⟨rfl, .nil, rfl⟩
  | [], _ :: _, h, _ => by simp at h
  | _ :: _, [], h, _ => by simp at h
  | (k, x) :: kvs, (kd, d) :: es, h, r => by
    simp only [List.map_cons, List.cons.injEq] at h r
    obtain ⟨h1, h2⟩ := h
    cases r with
    | cons a r =>
      obtain ⟨i1, i2, i3⟩ := drop_gen h2 r
      have hk : keyEq kd (.int n) = decide (k = Sum.inl n) := by
        rw [← h1]
        exact keyEq_keyD k (Sum.inl n)
      by_cases e : k = Sum.inl n
      · have e1 : dropK ((k, x) :: kvs) (Sum.inl n) = dropK kvs (Sum.inl n) := by simp [dropK, e]
        have e2 : dropD n ((kd, d) :: es) = dropD n es := by simp [dropD, hk, e]
        rw [e1, e2]
        refine ⟨i1, i2, ?_⟩
        rw [valV_pos (p := (k, x)) e]
        unfold lookD
        rw [hk]
        simp [e]
      · have e1 : dropK ((k, x) :: kvs) (Sum.inl n) = (k, x) :: dropK kvs (Sum.inl n) := by simp [dropK, e]
        have e2 : dropD n ((kd, d) :: es) = (kd, d) :: dropD n es := by simp [dropD, hk, e]
        rw [e1, e2]
        refine ⟨by simp [h1, i1], .cons a i2, ?_⟩
        rw [valV_neg (p := (k, x)) e]
        unfold lookD
        rw [hk]
        simp [e, i3]
theorem ss_del {o k : IE} {o' k' : Expr} {p pos : Pos} (ho : Sound X S o' o) (hk : Sound X S k' k) : SoundS X S (.Delete [.Subscript o' k' p] pos) (.del o k) := by
  refine (ps_ddel ho.pe hk.pe).weak fun D σ H h => ?_
  obtain ⟨ρ, st, W, E, r, w, en⟩ := h
  refine ⟨ρ, st, W, _, r, w, fun oo st1 ρ1 W1 H1 y p1 s1 t1 => ⟨ρ1, st1, W1, _, s1.rel, p1, fun ok st2 ρ2 W2 H2 z p2 s2 t2 => ?_⟩⟩
  obtain ⟨q1, n, st3, e1, hp, nx⟩ := p2
  have s12 := s1.trans r s2
  obtain rfl := t2.toInt s2.rel e1
  have to := (t1.tgp).later s2.pre
  unfold delS at hp
  unfold Tgp at to
  split at hp
  · rename_i i e2
    simp only [e2] at to
    split at hp
    · rename_i es e3
      split at hp
      · rename_i hc
        cases hp
        obtain ⟨a, d', hv, ha, wa, ro, nr⟩ := s2.rel.ow i _ e3
        cases hv
        rw [to] at ha; cases ha
        rcases ro with ⟨kvs, e4, k1, ra⟩ | ⟨kvs, e4, k1, ra⟩
        · obtain ⟨i1, i2, i3⟩ := drop_gen (n := n) k1 ra
          refine ⟨a, kvs, Sum.inl n, rfl, e4, rfl, by rw [← i3]; exact hc.2, ?_⟩
          have pr : Pres W2 H2 W2 (upd H2 a (.dK (dropK kvs (Sum.inl n)))) := fun b q w e => ⟨w, by rw [upd_ne (fun z => w (by rw [z]; exact wa))]; exact e⟩
          exact en.nx _ _ _ _ _ nx (s12.trans r (s2.rel.put e3 to (.inl ⟨_, upd_same, i1, i2.pres pr⟩)))
        · obtain ⟨_, rfl⟩ := kinds_T k1 hc.1 rfl
          exact absurd hc.2 (by simp [lookD])
      · cases hp
    · cases hp
  · cases hp
end
end Ev
end

section
set_option Elab.async false
set_option linter.all false
set_option maxRecDepth 100000
/-! Ev23: statements. -/
namespace Ev
open PySem PySem.Spec PyProof.Rows L2

/-! ### the text beside them -/
def compB : Expr → Bool
  | .ListComp _ _ _ _ => true
  | .SetComp _ _ _ _ => true
  | .DictComp _ _ _ _ _ => true
  | _ => false
def lcB : Expr → Bool
  | .ListComp _ [⟨_, _, _, 0⟩] _ _ => true
  | _ => false
def tupB : Expr → Bool
  | .Tuple _ _ _ => true
  | _ => false
/-- a comprehension that swaps with the name x at line n -/
def swB (sc : Scope) (x : Str) (n : Nat) : Expr → Bool
  | .ListComp _ _ s p => sc.names.lookup x == some .local && n == p.line && !(s.names.any fun (n, k) => n == x && (k == .local || k == .cell))
  | .DictComp _ _ _ s p => sc.names.lookup x == some .local && n == p.line && !(s.names.any fun (n, k) => n == x && (k == .local || k == .cell))
  | _ => false
def badComp : Expr → Bool
  | .SetComp _ _ _ _ => true
  | _ => false
def notNm : Expr → Bool
  | .Name _ _ => false
  | _ => true
theorem fm_lt {α β : Type} {f : α → Option β} : ∀ {l : List α}, (∃ x ∈ l, f x = none) → (l.filterMap f).length < l.length
  | [], h => by obtain ⟨x, hx, _⟩ := h; cases hx
  | a :: l, h => by
    rw [List.filterMap_cons]
    cases e : f a with
    | none =>
      have := List.length_filterMap_le f l
      simp only [List.length_cons]
      omega
    | some b =>
      have : ∃ x ∈ l, f x = none := by
        obtain ⟨x, hx, h⟩ := h
        rcases List.mem_cons.mp hx with rfl | hx
        · rw [e] at h; cases h
        · exact ⟨x, hx, h⟩
      have := fm_lt this
      simp only [List.length_cons]
      omega
theorem sw_nest {ts : List Expr} {k : Nat} {p : Pos} {v : Expr} {env : Env} (h : ts.any notNm = true) : swappedStores [.Tuple ts k p] v env = pure none := by
  cases v
  case Tuple vs k2 p2 =>
    have hl := fm_lt (f := fun
      | .Name id pos => if env.kindOf id == some .local && pos.line == ((ts.head?.map (·.pos.line)).getD 0) then some id else none
      | _ => none) (l := ts) (by
        obtain ⟨x, hx, hn⟩ := List.any_eq_true.mp h
        refine ⟨x, hx, ?_⟩
        cases x <;> first
          | rfl
          | cases hn)
    unfold swappedStores
    dsimp only
    split
    · rfl
    · split
      · rfl
      · refine (if_pos ?_).trans rfl
        simp only [bne_iff_ne, ne_eq, Bool.or_eq_true]
        exact .inl (Nat.ne_of_lt hl)
  all_goals rfl
variable (F : List String) (N : List Str) in
mutual
def mS : Scope → IS → Stmt → Bool
  | sc, .asg i e, st => match st with
    | .Assign [.Name x p] v _ => decide (N[i]? = some x) && locB sc x && mE F N sc e v && !badComp v
    | _ => false
  | sc, .par is es, st => match st with
    | .Assign [.Tuple ts _ _] (.Tuple vs _ _) _ => nmB N sc is ts && decide is.Nodup && decide (vs.length = ts.length) && !vs.any starB && swOk sc ts vs && mEs F N sc es vs && decide (vs.length ≤ 1000)
    | _ => false
  | sc, .unp tg e, st => match st with
    | .Assign [.Tuple ts k p] v _ => mT N sc tg (.Tuple ts k p) && mE F N sc e v && (!tupB v || ts.any notNm)
    | _ => false
  | sc, .put o k e, st => match st with
    | .Assign [.Subscript o' k' _] v _ => mE F N sc e v && mE F N sc o o' && mE F N sc k k' && !sliceB k'
    | _ => false
  | sc, .del o k, st => match st with
    | .Delete [.Subscript o' k' _] _ => mE F N sc o o' && mE F N sc k k'
    | _ => false
  | sc, .exp e, st => match st with
    | .Expr v _ => mE F N sc e v && !compB v
    | _ => false
  | sc, .ret e, st => match st with
    | .Return (some v) _ => mE F N sc e v
    | _ => false
  | _, .retN, st => match st with
    | .Return none _ => true
    | _ => false
  | sc, .ife c t e, st => match st with
    | .If c' t' e' _ => mE F N sc c c' && testB c' && mSs sc t t' && mSs sc e e'
    | _ => false
  | sc, .whl c b, st => match st with
    | .While c' b' [] _ => mE F N sc c c' && testB c' && mSs sc b b'
    | _ => false
  | sc, .for_ tg it b, st => match st with
    | .For tg' it' b' [] _ => mI F N sc it it' && mT N sc tg tg' && mSs sc b b' && !setB it' && tupI it tg'
    | _ => false
  | _, .brk, st => match st with
    | .Break _ => true
    | _ => false
  | _, .cnt, st => match st with
    | .Continue _ => true
    | _ => false
  | _, .pas, st => match st with
    | .Pass _ => true
    | _ => false
  | _, .rais, st => match st with
    | .Raise _ _ _ => true
    | _ => false
  | sc, .aug i e, st => match st with
    | .AugAssign (.Name x _) .Add v _ => decide (N[i]? = some x) && locB sc x && mE F N sc e v
    | _ => false
def mSs : Scope → ISs → List Stmt → Bool
  | _, .nil, ss => match ss with
    | [] => true
    | _ => false
  | sc, .cons s ss, l => match l with
    | t :: ts => mS sc s t && mSs sc ss ts
    | _ => false
end

section
variable {F : List String} {N : List Str} {S : SpecK} {X : Cx} {sc : Scope}
theorem swaps_none {v : Expr} {t : Option Expr} {n : Nat} {env : Env} (h : compB v = false) : swapsWith v t n env = pure false := by
  cases v <;> first
    | rfl
    | simp [compB] at h
theorem sole_tup {v : Expr} {ts : List Expr} {k : Nat} {p : Pos} {n : Nat} {env : Env} : swapsWithSole [.Tuple ts k p] v n env = pure false := by
  show swapsWith v (some (.Tuple ts k p)) n env = pure false
  cases v <;> rfl
theorem sole_sub {v o i : Expr} {p : Pos} {n : Nat} {env : Env} : swapsWithSole [.Subscript o i p] v n env = pure false := by
  show swapsWith v (some (.Subscript o i p)) n env = pure false
  cases v <;> rfl
theorem swaps_off {v tg : Expr} {n : Nat} {env : Env} (h : ∀ x p, tg ≠ .Name x p) : swapsWith v (some tg) n env = pure false := by
  cases v <;> first
    | rfl
    | (cases tg <;> first
        | rfl
        | exact absurd rfl (h _ _))
/-- one name -/
theorem set_end {ρ : List Addr} {st st1 : Stt} {W W1 : Addr → Prop} {σ : L2.St} {H H1 : Hp} {ρ1 : List Addr} {i : Nat} {o : Out} {x : V} (r : Rel X.K ρ st W σ H) (s1 : Step X.K ρ st W σ H ρ1 st1 W1 σ H1) (t1 : RT X.K ρ1 st1.env W1 σ H1 H o x) (hi : i < st1.env.length) :
    ∃ W', Step X.K ρ st W σ H ρ1 (setO i o st1) W' (σ.set i (some x)) H1 := by
  have hl : i < σ.length := by rw [← s1.rel.len]; exact hi
  obtain ⟨W', s2⟩ := store (os := [o]) (xs := [x]) (is := [i]) r s1 (.cons t1 .nil fun _ j o' x' h1 => by simp at h1) rfl (by simp) (SetOk.one hl)
  exact ⟨W', s2⟩
theorem asg_ts {i : Nat} {e : IE} {D : L2.Ends} {σ : L2.St} {H : Hp} {te : TE} (hte : ∀ Q, TE' X.K (wpE S e) σ H Q → te σ H Q) (h : TS' X.K (wpS S (.asg i e)) D σ H) : tAsg te (gName i) D σ H := by
  obtain ⟨ρ, st, W, E, r, w, en⟩ := h
  refine hte _ ⟨ρ, st, W, _, r, w, fun o st1 ρ1 W1 H1 x p1 s1 t1 => ?_⟩
  obtain ⟨hi, nx⟩ := p1
  obtain ⟨W', s2⟩ := set_end r s1 t1 hi
  exact en.nx _ _ _ _ _ nx s2
theorem ss_asg {i : Nat} {x : Str} {e : IE} {v : Expr} {p pos : Pos} (c : XOk F N S X sc) (hi : N[i]? = some x) (hx : locB sc x = true) (he : Sound X S v e) (hs : swapsWith v (some (.Name x p)) pos.line X.env = pure false) : SoundS X S (.Assign [.Name x p] v pos) (.asg i e) :=
  (ps_set (by rw [c.hN]; exact c.nd) (by rw [c.hN]; exact hi) (c.locOk hx) he.pe hs (c.fnok x hx)).weak fun D σ H h => asg_ts (fun _ q => q) h
theorem ss_asgLc {i : Nat} {x : Str} {elt : IE} {tg : Tg} {it : II} {cond : IO} {own : List Nat} {elt' tg' it' : Expr} {ifs : List Expr} {scope : Scope} {p cpos pos : Pos} (c : XOk F N S X sc) (hix : N[i]? = some x) (hxl : sc.names.lookup x = some .local)
    (hi : SoundI X S it' it) (hb : blkC N sc scope (own.map fun i => (N.getD i "", i)) = true) (htg : mT N scope tg tg' = true)
    (hc : ∀ Y, XOk F N S Y scope → SoundC Y S ifs cond) (he : ∀ Y, XOk F N S Y scope → Sound Y S elt' elt) (hs : setB it' = false) (ht : tupI it tg' = true) (hown : (slotsT tg).all (own.contains ·) = true)
    (hsw : swapsWith (.ListComp elt' [⟨tg', it', ifs, 0⟩] scope cpos) (some (.Name x p)) pos.line X.env = pure true) :
    SoundS X S (.Assign [.Name x p] (.ListComp elt' [⟨tg', it', ifs, 0⟩] scope cpos) pos) (.asg i (.comp elt tg it cond own)) := by
  have ps := ps_setLc (g := gT X.K tg) (tt := TT' X.K (wpC S cond)) (te := TE' X.K (wpE S elt)) (own := own.map fun i => (N.getD i "", i)) c.calm (by rw [c.hN]; exact c.nd) (by rw [c.hN]; exact hix) (c.vis x _ hxl (by decide)) hsw (hi tg' ht) (c.blkOk hb) (fun s H C cl fp => pg_of (c.blk s H C cl fp) tg tg' htg) (fun s H C cl fp => hc _ (c.blk s H C cl fp)) (fun s H C cl fp => (he _ (c.blk s H C cl fp)).pe) (fun x => foldOff hs x)
  rw [own_map] at ps
  exact ps.weak fun D σ H h => asg_ts (fun Q q => comp_te hown rfl q) h
theorem ss_asgLc2 {i : Nat} {x : Str} {elt : IE} {tg tg1 : Tg} {it it1 : II} {cond cond1 : IO} {own own1 : List Nat} {elt' tg' it' tg1' it1' : Expr} {ifs ifs1 : List Expr} {scope : Scope} {p cpos pos : Pos} (c : XOk F N S X sc) (hix : N[i]? = some x) (hxl : sc.names.lookup x = some .local)
    (hi : SoundI X S it' it) (hb : blkC N sc scope (own.map fun i => (N.getD i "", i)) = true) (htg : mT N scope tg tg' = true)
    (hc : ∀ Y, XOk F N S Y scope → SoundC Y S ifs cond) (hi1 : ∀ Y, XOk F N S Y scope → SoundI Y S it1' it1) (htg1 : mT N scope tg1 tg1' = true) (hc1 : ∀ Y, XOk F N S Y scope → SoundC Y S ifs1 cond1) (he : ∀ Y, XOk F N S Y scope → Sound Y S elt' elt) (hs : setB it' = false) (hs1 : setB it1' = false) (ht : tupI it tg' = true) (ht1 : tupI it1 tg1' = true)
    (hown : (slotsT tg).all (own.contains ·) = true) (hown1 : (slotsT tg1).all (own1.contains ·) = true) (hsub : own1.all (own.contains ·) = true)
    (hsw : swapsWith (.ListComp elt' [⟨tg', it', ifs, 0⟩, ⟨tg1', it1', ifs1, 0⟩] scope cpos) (some (.Name x p)) pos.line X.env = pure true) :
    SoundS X S (.Assign [.Name x p] (.ListComp elt' [⟨tg', it', ifs, 0⟩, ⟨tg1', it1', ifs1, 0⟩] scope cpos) pos) (.asg i (.comp2 elt tg it cond tg1 it1 cond1 own own1)) := by
  have ps := ps_setLc2 (g := gT X.K tg) (tt := TT' X.K (wpC S cond)) (wi1 := TI' X.K (wpI S it1)) (g1 := gT X.K tg1) (tt1 := TT' X.K (wpC S cond1)) (te := TE' X.K (wpE S elt)) (own := own.map fun i => (N.getD i "", i)) (vs1 := own1) c.calm (by rw [c.hN]; exact c.nd) (by rw [c.hN]; exact hix) (c.vis x _ hxl (by decide)) hsw (hi tg' ht) (c.blkOk hb) (by rw [own_map]; exact fun i hi => by simpa using List.all_eq_true.mp hsub i hi) (fun s H C cl fp => pg_of (c.blk s H C cl fp) tg tg' htg) (fun s H C cl fp => hc _ (c.blk s H C cl fp)) (fun s H C cl fp => hi1 _ (c.blk s H C cl fp) tg1' ht1) (fun s H C cl fp => pg_of (c.blk s H C cl fp) tg1 tg1' htg1) (fun s H C cl fp => hc1 _ (c.blk s H C cl fp)) (fun s H C cl fp => (he _ (c.blk s H C cl fp)).pe) (fun x => foldOff hs x) (fun env x => foldOff hs1 x)
  rw [own_map] at ps
  exact ps.weak fun D σ H h => asg_ts (fun Q q => comp2_te hown hown1 hsub rfl q) h
theorem ss_rais {st : Stmt} : SoundS X S st .rais := ⟨fun pins s σ H D I h => by
  obtain ⟨ρ, st, W, E, r, w, en⟩ := h
  exact w.elim⟩
theorem ss_aug {i : Nat} {x : Str} {e : IE} {v : Expr} {p pos : Pos} (c : XOk F N S X sc) (hi : N[i]? = some x) (hx : locB sc x = true) (he : Sound X S v e) : SoundS X S (.AugAssign (.Name x p) .Add v pos) (.aug i e) :=
  (ps_aug (by rw [c.hN]; exact c.nd) (by rw [c.hN]; exact hi) (c.locOk hx) he.pe ip_add (c.fnok x hx)).weak fun D σ H h => by
    obtain ⟨ρ, st, W, E, r, w, en⟩ := h
    obtain ⟨⟨v0, h0⟩, w⟩ := w
    obtain ⟨x0, hx0, _⟩ := r.fz i _ h0
    refine ⟨x0, hx0, ρ, st, W, _, r, w, fun o st1 ρ1 W1 H1 y p1 s1 t1 => ?_⟩
    obtain ⟨a, b, ha, hb, nx⟩ := p1
    obtain ⟨x1, hx1, rx1⟩ := s1.rel.fz i _ ha
    rw [hx0] at hx1
    cases hx1
    have rx1 : R W1 H1 x0 (.int a) := rx1
    cases rx1
    obtain rfl := t1.toInt s1.rel hb
    have hl : i < st1.env.length := (List.getElem?_eq_some_iff.mp ha).1
    have sb := s1.rel.bind hl (val := .dat (.int (a + b))) (v := .int (a + b)) (R.int _)
    exact ⟨a, b, rfl, rfl, en.nx _ _ _ _ _ nx (s1.trans r sb)⟩
theorem sw_lc {x : Str} {elt : Expr} {gs : List Comprehension} {s : Scope} {p q : Pos} {n : Nat} (c : XOk F N S X sc) (hk : X.env.scope.kind = .function) (hx : locB sc x = true) : swapsWith (.ListComp elt gs s q) (some (.Name x p)) n X.env = pure (swB sc x p.line (.ListComp elt gs s q)) := by
  have hb : X.env.blockKind = .function := by unfold Env.blockKind; rw [hk]; rfl
  have ky := locB_kind c hx
  unfold swapsWith
  simp only [hb, ky]
  rfl
theorem sw_dc {x : Str} {kx vx : Expr} {gs : List Comprehension} {s : Scope} {p q : Pos} {n : Nat} (c : XOk F N S X sc) (hk : X.env.scope.kind = .function) (hx : locB sc x = true) : swapsWith (.DictComp kx vx gs s q) (some (.Name x p)) n X.env = pure (swB sc x p.line (.DictComp kx vx gs s q)) := by
  have hb : X.env.blockKind = .function := by unfold Env.blockKind; rw [hk]; rfl
  have ky := locB_kind c hx
  unfold swapsWith
  simp only [hb, ky]
  rfl
theorem ss_asgDc {i : Nat} {x : Str} {kx vx : IE} {tg : Tg} {it : II} {cond : IO} {own : List Nat} {kx' vx' tg' it' : Expr} {ifs : List Expr} {scope : Scope} {p cpos pos : Pos} (c : XOk F N S X sc) (hix : N[i]? = some x) (hxl : sc.names.lookup x = some .local)
    (hi : SoundI X S it' it) (hb : blkC N sc scope (own.map fun i => (N.getD i "", i)) = true) (htg : mT N scope tg tg' = true)
    (hc : ∀ Y, XOk F N S Y scope → SoundC Y S ifs cond) (hk : ∀ Y, XOk F N S Y scope → Sound Y S kx' kx) (he : ∀ Y, XOk F N S Y scope → Sound Y S vx' vx) (hs : setB it' = false) (ht : tupI it tg' = true) (hown : (slotsT tg).all (own.contains ·) = true)
    (hsw : swapsWith (.DictComp kx' vx' [⟨tg', it', ifs, 0⟩] scope cpos) (some (.Name x p)) pos.line X.env = pure true) :
    SoundS X S (.Assign [.Name x p] (.DictComp kx' vx' [⟨tg', it', ifs, 0⟩] scope cpos) pos) (.asg i (.dcp kx vx tg it cond own)) := by
  have ps := ps_takesDc (g := gT X.K tg) (tt := TT' X.K (wpC S cond)) (tk := TE' X.K (wpE S kx)) (tv := TE' X.K (wpE S vx)) (own := own.map fun i => (N.getD i "", i)) c.calm (by rw [c.hN]; exact c.nd) (by rw [c.hN]; exact hix) (c.vis x _ hxl (by decide)) hsw (hi tg' ht) (c.blkOk hb) (fun s H C cl fp => pg_of (c.blk s H C cl fp) tg tg' htg) (fun s H C cl fp => hc _ (c.blk s H C cl fp)) (fun s H C cl fp => (hk _ (c.blk s H C cl fp)).pe) (fun s H C cl fp => (he _ (c.blk s H C cl fp)).pe) (fun x => foldOff hs x)
  rw [own_map] at ps
  exact ps.weak fun D σ H h => asg_ts (fun Q q => dcp_te hown rfl q) h
theorem ss_ret {e : IE} {v : Expr} {pos : Pos} (he : Sound X S v e) : SoundS X S (.Return (some v) pos) (.ret e) :=
  (ps_ret he.pe).weak fun D σ H h => by
    obtain ⟨ρ, st, W, E, r, w, en⟩ := h
    exact ⟨ρ, st, W, _, r, w, fun o st1 ρ1 W1 H1 x p1 s1 t1 => en.rt _ _ _ _ _ _ _ p1 s1 t1⟩
theorem ss_retN {pos : Pos} : SoundS X S (.Return none pos) .retN :=
  ps_retN.weak fun D σ H h => by
    obtain ⟨ρ, st, W, E, r, w, en⟩ := h
    exact en.rt _ _ _ _ _ _ _ w r.refl R.non
theorem ss_exp {e : IE} {v : Expr} {pos : Pos} (he : Sound X S v e) (hs : compB v = false) : SoundS X S (.Expr v pos) (.exp e) :=
  (ps_expr he.pe (swaps_none hs)).weak fun D σ H h => by
    obtain ⟨ρ, st, W, E, r, w, en⟩ := h
    exact ⟨ρ, st, W, _, r, w, fun o st1 ρ1 W1 H1 x p1 s1 t1 => en.nx _ _ _ _ _ p1 s1⟩
theorem ss_ife {e : IE} {t f : ISs} {v : Expr} {t' f' : List Stmt} {pos : Pos} (he : Sound X S v e) (hv : testB v = true) (ht : SoundSs X S t' t) (hf : SoundSs X S f' f) : SoundS X S (.If v t' f' pos) (.ife e t f) :=
  (ps_if (he.pt hv) ht hf).weak fun D σ H h => by
    obtain ⟨ρ, st, W, E, r, w, en⟩ := h
    refine ⟨ρ, st, W, _, r, w, fun b st1 ρ1 W1 H1 p1 s1 => ?_⟩
    cases b with
    | true => exact ⟨ρ1, st1, W1, E, s1.rel, p1, en.later r s1⟩
    | false => exact ⟨ρ1, st1, W1, E, s1.rel, p1, en.later r s1⟩
theorem ss_unp {tg : Tg} {e : IE} {v tg' : Expr} {pos : Pos} (c : XOk F N S X sc) (ht : mT N sc tg tg' = true) (he : Sound X S v e) (hs : swapsWithSole [tg'] v pos.line X.env = pure false) (hw : swappedStores [tg'] v X.env = pure none) (h1 : (assignEach [tg'] X.env).map (·.2) = [assign tg' X.env]) : SoundS X S (.Assign [tg'] v pos) (.unp tg e) :=
  (ps_asg he.pe (pg_of c tg tg' ht) hs hw h1).weak fun D σ H h => by
    obtain ⟨ρ, st, W, E, r, w, en⟩ := h
    refine ⟨ρ, st, W, _, r, w, fun o st1 ρ1 W1 H1 x p1 s1 t1 => ?_⟩
    obtain ⟨d, env', hv, hb, nx⟩ := p1
    obtain ⟨W5, s5, pr, _, fz⟩ := freeze (os := [o]) (xs := [x]) r s1 (.cons t1 .nil fun _ j o' x' h1 => by simp at h1)
    obtain ⟨x', hx', rv⟩ := fz 0 o rfl
    simp at hx'
    subst hx'
    rw [frz_one] at s5
    rw [hv] at rv
    exact gT_of tg d x (frz o st1) σ env' _ s5.rel rv hb fun σ' s6 _ => en.nx _ _ _ _ _ nx (s5.trans r s6)
theorem ss_par {is : List Nat} {es : IEs} {ts vs : List Expr} {k k2 : Nat} {p p2 pos : Pos} (c : XOk F N S X sc) (hn : nmB N sc is ts = true) (nd : is.Nodup) (hl : vs.length = ts.length) (hs : vs.any starB = false) (ok : swOk sc ts vs = true) (ha : SoundA X S vs es) (h1000 : vs.length ≤ 1000) :
    SoundS X S (.Assign [.Tuple ts k p] (.Tuple vs k2 p2) pos) (.par is es) :=
  (ps_parN c hn nd hl hs ok ha).weak fun D σ H h => by
    obtain ⟨ρ, st, W, E, r, w, en⟩ := h
    refine ⟨ρ, st, W, _, r, w, fun os st1 ρ1 W1 H1 xs p1 s1 t1 => ?_⟩
    obtain ⟨e1, e2, nx⟩ := p1
    have xl := t1.length
    have il := (nm_mTs hn).2.2.2.1
    have line : 1000 ≤ sizeLine := by decide
    refine ⟨by omega, by omega, fun σ' hσ => ?_⟩
    obtain ⟨W', s2⟩ := store r s1 t1 e1 nd (hσ fun i hi => by rw [← s1.rel.len]; exact e2 i hi)
    have q : ∀ l st, frzSlots l st = frzA l st := by
      intro l
      induction l with
      | nil => intro st; rfl
      | cons o l ih => intro st; exact ih _
    rw [q] at nx
    exact en.nx _ _ _ _ _ nx s2
theorem ss_whl {e : IE} {b : ISs} {v : Expr} {b' : List Stmt} {pos : Pos} (c : XOk F N S X sc) (he : Sound X S v e) (hv : testB v = true) (hb : SoundSs X S b' b) : SoundS X S (.While v b' [] pos) (.whl e b) :=
  (ps_while (by rw [c.noex]; exact PassesOwn.never) (he.pt hv) hb).weak fun D σ H h => by
    obtain ⟨ρ, st, W, E, r, w, en⟩ := h
    obtain ⟨Wi, ⟨m0, w0⟩, turn⟩ := w
    refine ⟨fun m σ' H' => ∃ ρ' st' W', Step X.K ρ st W σ H ρ' st' W' σ' H' ∧ Wi m st', ⟨m0, ρ, st, W, r.refl, w0⟩, ?_⟩
    rintro m σ' H' ⟨ρ', st', W', s1, w1⟩
    refine ⟨ρ', st', W', _, s1.rel, turn m st' w1, fun t st2 ρ2 W2 H2 p2 s2 => ?_⟩
    have s12 := s1.trans r s2
    cases t with
    | false =>
      simp only [Bool.false_eq_true, if_false] at p2 ⊢
      exact en.nx _ _ _ _ _ p2 s12
    | true =>
      simp only [if_true] at p2 ⊢
      refine ⟨fun σ3 H3 => ∃ m', m' < m ∧ ∃ ρ3 st3 W3, Step X.K ρ st W σ H ρ3 st3 W3 σ3 H3 ∧ Wi m' st3, fun σ3 H3 z => z, ρ2, st2, W2, _, s2.rel, p2, ?_⟩
      have e12 := en.later r s12
      exact ⟨fun st3 ρ3 W3 σ3 H3 ⟨m', h1, h2⟩ s3 => ⟨m', h1, ρ3, st3, W3, s12.trans r s3, h2⟩, e12.rt, fun st3 ρ3 W3 σ3 H3 q s3 => e12.nx _ _ _ _ _ q s3, fun st3 ρ3 W3 σ3 H3 ⟨m', h1, h2⟩ s3 => ⟨m', h1, ρ3, st3, W3, s12.trans r s3, h2⟩⟩
theorem ss_for {tg : Tg} {it : II} {b : ISs} {tg' it' : Expr} {b' : List Stmt} {pos : Pos} (c : XOk F N S X sc) (hi : SoundI X S it' it) (ht : tupI it tg' = true) (htg : mT N sc tg tg' = true) (hb : SoundSs X S b' b) (hs : setB it' = false) : SoundS X S (.For tg' it' b' [] pos) (.for_ tg it b) :=
  (ps_for (by rw [c.noex]; exact PassesOwn.never) c.calm (hi tg' ht) (pg_of c tg tg' htg) hb (fun x => foldOff hs x)).weak fun D σ H h => by
    obtain ⟨ρ, st, W, E, r, w, en⟩ := h
    refine ⟨ρ, st, W, _, r, w, fun ds os st1 ρ1 W1 H1 xs J p1 s1 t1 wk => ?_⟩
    obtain ⟨Wf, sf, pr, _, fz⟩ := freeze r s1 t1
    have t1l := t1.length
    generalize hstep : (fun (d : PyData) (K : Stt → Prop) (st2 : Stt) => ∃ env', bindT tg d st2.env = some env' ∧ wpSs S b { E with nx := K, ct := K, bk := E.nx } { st2 with env := env' }) = step at p1
    refine ⟨fun i m σ' H' => m = ds.length - i ∧ i ≤ ds.length ∧ ∃ ρ' st' W', Step X.K ρ1 (frzA os st1) Wf σ H1 ρ' st' W' σ' H' ∧ wpLoop step E.nx (ds.drop i) st', ⟨ds.length, by simp, by omega, ρ1, _, Wf, sf.rel.refl, by simpa using p1⟩, ?_⟩
    rintro i m σ' H' ⟨hm, hl, ρ', st', W', s2, p2⟩
    have our : OuR X.K os xs W' H' := fun k o x ds' h1 h2 h3 => by
      obtain ⟨x', e1, e2⟩ := fz k o h1
      rw [h2] at e1; cases e1
      exact RVal.sq (K := X.K) (ρ := ρ') (e2.pres s2.fr.keep s2.pre) h3
    obtain ⟨w1, w2⟩ := wk i W' H' s2.rel.s.wn our
    have s12 := sf.trans r s2
    by_cases hlt : i < ds.length
    · obtain ⟨w3, w4⟩ := w2 ds[i] (List.getElem?_eq_getElem hlt)
      rw [List.drop_eq_getElem_cons hlt] at p2
      have p3 : step ds[i] (wpLoop step E.nx (ds.drop (i + 1))) st' := p2
      rw [← hstep] at p3
      obtain ⟨env', hbd, p4⟩ := p3
      refine .inr ⟨w3, fun σ3 H3 => i + 1 ≤ ds.length ∧ ∃ ρ3 st3 W3, Step X.K ρ1 (frzA os st1) Wf σ H1 ρ3 st3 W3 σ3 H3 ∧ wpLoop step E.nx (ds.drop (i + 1)) st3, fun σ3 H3 ⟨z1, z2⟩ => ⟨ds.length - (i + 1), by omega, rfl, z1, z2⟩, fun x H'' hy => ?_⟩
      obtain ⟨ext, rx⟩ := w4 x H'' hy
      have g2 : Step X.K ρ' st' W' σ' H' ρ' st' W' σ' H'' := s2.rel.grow ext (fun _ w => w) fun _ w => .inl w
      refine gT_of tg ds[i] x st' σ' env' _ g2.rel rx hbd fun σ3 g3 _ => ?_
      have g23 := g2.trans s2.rel g3
      have e3 := en.later r (s12.trans r g23)
      refine ⟨ρ', _, W', _, g3.rel, p4, ?_⟩
      rw [hstep]
      exact ⟨fun st4 ρ4 W4 σ4 H4 q s4 => ⟨by omega, ρ4, st4, W4, s2.trans sf.rel (g23.trans s2.rel s4), q⟩, e3.rt, fun st4 ρ4 W4 σ4 H4 q s4 => e3.nx _ _ _ _ _ q s4, fun st4 ρ4 W4 σ4 H4 q s4 => ⟨by omega, ρ4, st4, W4, s2.trans sf.rel (g23.trans s2.rel s4), q⟩⟩
    · have e : i = ds.length := by omega
      subst e
      rw [List.drop_length] at p2
      exact .inl ⟨w1 rfl, en.nx _ _ _ _ _ p2 s12⟩

mutual
theorem s_s : ∀ (is : IS) {sc : Scope} {st : Stmt} {X : Cx}, X.env.scope.kind = .function → mS F N sc is st = true → XOk F N S X sc → SoundS X S st is
  | .asg i e, sc, st, X, hk, h, c => by
    simp only [mS] at h
    split at h
    · rename_i x p v pos
      simp only [Bool.and_eq_true, decide_eq_true_eq, Bool.not_eq_true'] at h
      obtain ⟨⟨⟨h1, h2⟩, h3⟩, h4⟩ := h
      by_cases hc : swB sc x p.line v = true
      · -- a comprehension stored at once
        cases v with
        | ListComp elt' gs scope cpos =>
          have sw := sw_lc (elt := elt') (gs := gs) (s := scope) (p := p) (q := cpos) (n := pos.line) c hk h2
          rw [hc] at sw
          have hxl : sc.names.lookup x = some .local := by
            simp only [swB, Bool.and_eq_true, beq_iff_eq] at hc
            exact hc.1.1
          cases e with
          | comp elt tg it cond own =>
            simp only [mE] at h3
            split at h3
            · rename_i q
              cases q
              simp only [Bool.and_eq_true, Bool.not_eq_true'] at h3
              obtain ⟨⟨⟨⟨⟨⟨⟨k1, k2⟩, k3⟩, k4⟩, k5⟩, k6⟩, k7⟩, k8⟩ := h3
              exact ss_asgLc c h1 hxl (s_i it k1 c) k2 k3 (fun Y cy => s_c cond k4 cy) (fun Y cy => s_e elt k5 cy) k6 k7 k8 sw
            · cases h3
          | comp2 elt tg it cond tg1 it1 cond1 own own1 =>
            simp only [mE] at h3
            split at h3
            · rename_i q
              cases q
              simp only [Bool.and_eq_true, Bool.not_eq_true'] at h3
              obtain ⟨⟨⟨⟨⟨⟨⟨⟨⟨⟨⟨⟨⟨⟨k1, k2⟩, k3⟩, k4⟩, k5⟩, k6⟩, k7⟩, k8⟩, k9⟩, k10⟩, k11⟩, k12⟩, k13⟩, k14⟩, k15⟩ := h3
              exact ss_asgLc2 c h1 hxl (s_i it k1 c) k2 k3 (fun Y cy => s_c cond k4 cy) (fun Y cy => s_i it1 k5 cy) k6 (fun Y cy => s_c cond1 k7 cy) (fun Y cy => s_e elt k8 cy) k9 k10 k11 k12 k13 k14 k15 sw
            · cases h3
          | pop o es =>
            cases es with
            | nil => simp [mE] at h3
            | cons a b => cases b <;> simp [mE] at h3
            | star a b => simp [mE] at h3
          | lrg t it => cases it <;> simp [mE] at h3
          | _ => simp [mE] at h3
        | DictComp kx' vx' gs scope cpos =>
          have sw := sw_dc (kx := kx') (vx := vx') (gs := gs) (s := scope) (p := p) (q := cpos) (n := pos.line) c hk h2
          rw [hc] at sw
          have hxl : sc.names.lookup x = some .local := by
            simp only [swB, Bool.and_eq_true, beq_iff_eq] at hc
            exact hc.1.1
          cases e with
          | dcp kx vx tg it cond own =>
            simp only [mE] at h3
            split at h3
            · rename_i q
              cases q
              simp only [Bool.and_eq_true, Bool.not_eq_true'] at h3
              obtain ⟨⟨⟨⟨⟨⟨⟨⟨k1, k2⟩, k3⟩, k4⟩, k5⟩, k6⟩, k7⟩, k8⟩, k9⟩ := h3
              exact ss_asgDc c h1 hxl (s_i it k1 c) k2 k3 (fun Y cy => s_c cond k4 cy) (fun Y cy => s_e kx k5 cy) (fun Y cy => s_e vx k6 cy) k7 k8 k9 sw
            · cases h3
          | pop o es =>
            cases es with
            | nil => simp [mE] at h3
            | cons a b => cases b <;> simp [mE] at h3
            | star a b => simp [mE] at h3
          | lrg t it => cases it <;> simp [mE] at h3
          | _ => simp [mE] at h3
        | _ => simp [swB] at hc
      · refine ss_asg c h1 h2 (s_e e h3 c) ?_
        cases v with
        | ListComp elt' gs scope cpos =>
          rw [sw_lc c hk h2]
          simp only [Bool.not_eq_true] at hc
          rw [hc]
        | SetComp _ _ _ _ => simp [badComp] at h4
        | DictComp kx' vx' gs scope cpos =>
          rw [sw_dc c hk h2]
          simp only [Bool.not_eq_true] at hc
          rw [hc]
        | _ => rfl
    · cases h
  | .par is es, sc, st, X, hk, h, c => by
    simp only [mS] at h
    split at h
    · simp only [Bool.and_eq_true, decide_eq_true_eq, Bool.not_eq_true'] at h
      obtain ⟨⟨⟨⟨⟨⟨h1, h2⟩, h3⟩, h4⟩, h5⟩, h6⟩, h7⟩ := h
      exact ss_par c h1 h2 h3 h4 h5 (s_es es h6 c) h7
    · cases h
  | .unp tg e, sc, st, X, hk, h, c => by
    simp only [mS] at h
    split at h
    · simp only [Bool.and_eq_true, Bool.not_eq_true'] at h
      obtain ⟨⟨h1, h2⟩, h3⟩ := h
      refine ss_unp c h1 (s_e e h2 c) sole_tup ?_ rfl
      rename_i v _
      rw [Bool.or_eq_true] at h3
      rcases h3 with h3 | h3
      rotate_left
      · exact sw_nest h3
      rw [Bool.not_eq_true'] at h3
      cases v <;> first
        | rfl
        | simp [tupB] at h3
    · cases h
  | .put o k e, sc, st, X, hk, h, c => by
    simp only [mS] at h
    split at h
    · simp only [Bool.and_eq_true, Bool.not_eq_true'] at h
      obtain ⟨⟨⟨h1, h2⟩, h3⟩, h4⟩ := h
      exact ss_put c (s_e e h1 c) (s_e o h2 c) (s_e k h3 c) h4 sole_sub rfl
    · cases h
  | .del o k, sc, st, X, hk, h, c => by
    simp only [mS] at h
    split at h
    · simp only [Bool.and_eq_true] at h
      exact ss_del (s_e o h.1 c) (s_e k h.2 c)
    · cases h
  | .exp e, sc, st, X, hk, h, c => by
    simp only [mS] at h
    split at h
    · simp only [Bool.and_eq_true, Bool.not_eq_true'] at h
      exact ss_exp (s_e e h.1 c) h.2
    · cases h
  | .ret e, sc, st, X, hk, h, c => by
    simp only [mS] at h
    split at h
    · exact ss_ret (s_e e h c)
    · cases h
  | .retN, sc, st, X, hk, h, c => by
    simp only [mS] at h
    split at h
    · exact ss_retN
    · cases h
  | .ife e t f, sc, st, X, hk, h, c => by
    simp only [mS] at h
    split at h
    · simp only [Bool.and_eq_true] at h
      obtain ⟨⟨⟨h1, h2⟩, h3⟩, h4⟩ := h
      exact ss_ife (s_e e h1 c) h2 (s_ss t hk h3 c) (s_ss f hk h4 c)
    · cases h
  | .whl e b, sc, st, X, hk, h, c => by
    simp only [mS] at h
    split at h
    · simp only [Bool.and_eq_true] at h
      obtain ⟨⟨h1, h2⟩, h3⟩ := h
      exact ss_whl c (s_e e h1 c) h2 (s_ss b hk h3 c)
    · cases h
  | .for_ tg it b, sc, st, X, hk, h, c => by
    simp only [mS] at h
    split at h
    · simp only [Bool.and_eq_true, Bool.not_eq_true'] at h
      obtain ⟨⟨⟨⟨h1, h2⟩, h3⟩, h4⟩, h5⟩ := h
      exact ss_for c (s_i it h1 c) h5 h2 (s_ss b hk h3 c) h4
    · cases h
  | .brk, sc, st, X, hk, h, c => by
    simp only [mS] at h
    split at h
    · exact ps_break.weak fun D σ H q => by
        obtain ⟨ρ, st, W, E, r, w, en⟩ := q
        exact en.bk _ _ _ _ _ w r.refl
    · cases h
  | .cnt, sc, st, X, hk, h, c => by
    simp only [mS] at h
    split at h
    · exact ps_continue.weak fun D σ H q => by
        obtain ⟨ρ, st, W, E, r, w, en⟩ := q
        exact en.ct _ _ _ _ _ w r.refl
    · cases h
  | .pas, sc, st, X, hk, h, c => by
    simp only [mS] at h
    split at h
    · exact ps_pass.weak fun D σ H q => by
        obtain ⟨ρ, st, W, E, r, w, en⟩ := q
        exact en.nx _ _ _ _ _ w r.refl
    · cases h
  | .rais, sc, st, X, hk, h, c => ss_rais
  | .aug i e, sc, st, X, hk, h, c => by
    simp only [mS] at h
    split at h
    · simp only [Bool.and_eq_true, decide_eq_true_eq] at h
      exact ss_aug c h.1.1 h.1.2 (s_e e h.2 c)
    · cases h
theorem s_ss : ∀ (is : ISs) {sc : Scope} {ss : List Stmt} {X : Cx}, X.env.scope.kind = .function → mSs F N sc is ss = true → XOk F N S X sc → SoundSs X S ss is
  | .nil, sc, ss, X, hk, h, c => by
    simp only [mSs] at h
    split at h
    · exact pss_nil.weak fun D σ H q => by
        obtain ⟨ρ, st, W, E, r, w, en⟩ := q
        exact en.nx _ _ _ _ _ w r.refl
    · cases h
  | .cons s ss, sc, l, X, hk, h, c => by
    simp only [mSs] at h
    split at h
    · simp only [Bool.and_eq_true] at h
      exact (pss_cons (s_s s hk h.1 c) (s_ss ss hk h.2 c)).weak fun D σ H q => by
        obtain ⟨ρ, st, W, E, r, w, en⟩ := q
        refine ⟨ρ, st, W, _, r, w, ?_⟩
        exact ⟨fun st1 ρ1 W1 σ1 H1 p1 s1 => ⟨ρ1, st1, W1, E, s1.rel, p1, en.later r s1⟩, en.rt, en.bk, en.ct⟩
    · cases h
end
end
end Ev
end

section
set_option Elab.async false
set_option linter.all false
set_option maxRecDepth 100000
/-! Ev24: the program. -/
namespace Ev
open PySem PySem.Spec PyProof.Rows L2

structure DefI where
  nm : String
  ps : List Str
  N : List Str
  body : ISs
  st : Stmt
def DefI.x (d : DefI) : Str := Str.ofString d.nm
structure DefOk (F : List String) (d : DefI) : Prop where
  sc : FnScope d.N d.ps (defScope d.st)
  m : mSs F d.N (defScope d.st) d.body (defBody d.st) = true
  bind : ∀ (kV doc pm : Value) (an : Option Addr) (cdv ct : Value) (us : List Value), us.length = d.ps.length → bindArgs (PySem.W.fnOf d.x d.x (defArgs d.st) (defBody d.st) (defScope d.st) .none kV doc pm an cdv ct) ⟨us, []⟩ = pure (d.ps.zip us)
/-- a body's start, its ends -/
def startE (N : List Str) (args : List Val) : List (Option EV) := args.map (fun v => some ⟨false, v⟩) ++ List.replicate (N.length - args.length) none
def ownO (o : Out) : Bool := match o.tag with
  | .frz => false
  | _ => true
def retEV (o : Out) : EV := ⟨ownO o, o.val⟩
def ends (Q : EV → List SObj → Prop) : EndsP := { nx := fun s => Q ⟨false, .dat .none⟩ s.sto, rt := fun o s => Q (retEV o) s.sto }
/-- what the defs say is what their bodies do -/
def Con (F : List DefI) (Sp : Spec) : Prop := (∀ f args sto Q, ¬ Sp 0 f args sto Q) ∧ ∀ (k : Nat) (d : DefI), d ∈ F → ∀ args sto Q, Sp (k + 1) d.nm args sto Q → args.length = d.ps.length ∧ wpSs (Sp k) d.body (ends Q) ⟨startE d.N args, sto⟩

section
variable {K : PySem.W.Frag} {ρ : List Addr} {sto : List SObj} {W : Addr → Prop} {H : Hp}
theorem start_rel {N : List Str} {args : List Val} {vs : List V} (s : SRel ρ sto W H) (h : Paired (RVal K ρ W H) args vs) : Rel K ρ ⟨startE N args, sto⟩ W (L2.start N vs) H := by
  have hl : args.length = vs.length := Paired.length h
  have own : ∀ (i : Nat) (val : Val), (startE N args)[i]? ≠ some (some ⟨true, val⟩) := by
    intro i val e
    unfold startE at e
    by_cases hi : i < args.length
    · rw [List.getElem?_append_left (by simpa using hi), List.getElem?_map] at e
      cases q : args[i]? with
      | none => rw [q] at e; cases e
      | some v => rw [q] at e; cases e
    · rw [List.getElem?_append_right (by simpa using Nat.le_of_not_lt hi), List.getElem?_replicate] at e
      split at e <;> cases e
  refine ⟨s, by simp [startE, L2.start, hl], fun i val e => ?_, fun i val e => absurd e (own i val), fun i j vi vj a e => absurd e (own i vi)⟩
  have e : (startE N args)[i]? = some (some ⟨false, val⟩) := e
  unfold startE at e
  by_cases hi : i < args.length
  · rw [List.getElem?_append_left (by simpa using hi), List.getElem?_map] at e
    cases q : args[i]? with
    | none => rw [q] at e; cases e
    | some v =>
      rw [q] at e
      cases e
      obtain ⟨x, h1, h2⟩ := paired_get h q
      refine ⟨x, ?_, h2⟩
      unfold L2.start
      rw [List.getElem?_append_left (by simp; omega), List.getElem?_map, h1]
      rfl
  · rw [List.getElem?_append_right (by simpa using Nat.le_of_not_lt hi), List.getElem?_replicate] at e
    split at e <;> cases e
theorem start_lc {N : List Str} {args : List Val} {σ : L2.St} {a : Addr} (l : Lc ρ (startE N args) σ a) : a ∈ ρ := by
  rcases l with l | ⟨i, val, e, _⟩
  · exact l
  · exfalso
    unfold startE at e
    by_cases hi : i < args.length
    · rw [List.getElem?_append_left (by simpa using hi), List.getElem?_map] at e
      cases q : args[i]? with
      | none => rw [q] at e; cases e
      | some v => rw [q] at e; cases e
    · rw [List.getElem?_append_right (by simpa using Nat.le_of_not_lt hi), List.getElem?_replicate] at e
      split at e <;> cases e
/-- what is handed back -/
theorem ret_ok {ρ' : List Addr} {N : List Str} {args : List Val} {σ σ' : L2.St} {st' : Stt} {W' : Addr → Prop} {H' : Hp} {o : Out} {x : V} (s : Step K ρ ⟨startE N args, sto⟩ W σ H ρ' st' W' σ' H') (t : RT K ρ' st'.env W' σ' H' H o x) : RRet K ρ' W' H H' (retEV o) x := by
  unfold RRet retEV
  obtain ⟨tag, val⟩ := o
  cases tag with
  | frz => simp only [ownO, Bool.false_eq_true, if_false]; exact t
  | fre =>
    simp only [ownO, if_true]
    obtain ⟨a, d, h1, h2, h3, h4, h5, h6⟩ := t
    exact ⟨a, d, h1, h2, h3, h4, fun z => h5 (.inl z), h6⟩
  | slot i =>
    simp only [ownO, if_true]
    obtain ⟨a, d, h1, h2, h3, h4, h5⟩ := s.rel.ow i val t.1
    refine ⟨a, d, h1, ?_, h3, h4, h5, ?_⟩
    · have := t.2
      rw [h2] at this
      exact (Option.some.inj (Option.some.inj this)).symm
    · rcases s.sub a (.inr ⟨i, val, t.1, h2⟩) with q | q
      · exact absurd (s.pre.subset (start_lc q)) h5
      · exact q
end

section
variable {P : Program} {w : World} {K : PySem.W.Frag} {mg : Str → Option Value} {base : Heap} {F : List DefI} {Sp : Spec}
theorem xok {d : DefI} {k : Nat} {f : Addr} {cdv : Value} {A : Around} {outer : List Env} {s : Shared} {H : Hp} (o : DefOk (F.map (·.nm)) d) (blt : ∀ x ∈ bltNames, mg x = none) (hr : Room k (A.deeper (envOfC d.x (defScope d.st) s.heap.objs.size f cdv))) (hg : A.guards = some [])
    (call : ∀ g ∈ F, ∃ fd, FunD K g.x g.x (defArgs g.st) (defBody g.st) (defScope g.st) [] [] (He.ga K g.x) fd ∧ mg g.x = some (.ref (He.ga K g.x)) ∧ DefOk (F.map (·.nm)) g ∧ FnG P w K mg base k (He.ga K g.x) fd g.ps (spOf K (Sp k) g.nm)) :
    XOk (F.map (·.nm)) d.N (Sp k) (cxOf CX0 P w K mg base d.N d.x (defScope d.st) f cdv A outer s H E0).nox (defScope d.st) where
  hN := rfl
  nd := o.sc.nd
  calm := rfl
  guards := (guards_deeper _).trans hg
  room := by
    have h := hr.un
    show (A.deeper (envOfC d.x (defScope d.st) s.heap.objs.size f cdv)).units + 200 < cLine
    omega
  noex := rfl
  vis := fun x k h _ => h
  visF := fun x h => absurd (PySem.mem_of_lookup h) (fun m => o.sc.nofree _ m rfl)
  fnok := fun x h => .inl rfl
  blt := blt
  call := fun g hg => by
    obtain ⟨d', hd, rfl⟩ := List.mem_map.mp (by simpa using hg)
    obtain ⟨fd, F1, m1, o1, G1⟩ := call d' hd
    exact ⟨k, _, fd, d'.ps, m1, F1.kp, F1.bindsN o1.bind, G1, hr⟩
theorem prog_fn (con : Con F Sp) (ok : ∀ d ∈ F, DefOk (F.map (·.nm)) d) (blt : ∀ x ∈ bltNames, mg x = none)
    (facts : ∀ g ∈ F, ∃ fd, FunD K g.x g.x (defArgs g.st) (defBody g.st) (defScope g.st) [] [] (He.ga K g.x) fd ∧ mg g.x = some (.ref (He.ga K g.x))) :
    ∀ (k : Nat), ∀ g ∈ F, ∀ fd, FunD K g.x g.x (defArgs g.st) (defBody g.st) (defScope g.st) [] [] (He.ga K g.x) fd → FnG P w K mg base k (He.ga K g.x) fd g.ps (spOf K (Sp k) g.nm) := by
  intro k
  induction k with
  | zero =>
    intro g hg fd FD
    exact ⟨fun vs H Q ⟨_, _, _, _, _, _, _, h, _⟩ => absurd h (con.1 _ _ _ _), fun A outer s H args us vs Q _ _ _ _ _ ⟨_, _, _, _, _, _, _, h, _⟩ => absurd h (con.1 _ _ _ _)⟩
  | succ k ih =>
    intro g hg fd FD
    have o := ok g hg
    refine FnG.of (scope := defScope g.st) FD o.sc (fun vs H Q ⟨_, _, _, args, _, _, pr, h, _⟩ => ?_) fun cdv A outer s H vs Q hr hgd hsp => ?_
    · rw [← Paired.length pr]
      exact (con.2 k g hg _ _ _ h).1
    · obtain ⟨ρ, sto, W, args, R, sr, pr, h, out⟩ := hsp
      have c := xok (Sp := Sp) (d := g) (k := k) (f := He.ga K g.x) (cdv := cdv) (outer := outer) (s := s) (H := H) (P := P) (w := w) (base := base) o blt hr hgd (fun g' hg' => by
        obtain ⟨fd', F1, m1⟩ := facts g' hg'
        exact ⟨fd', F1, m1, ok g' hg', ih g' hg' fd' F1⟩)
      refine ⟨_, s_ss g.body (X := (cxOf CX0 P w K mg base g.N g.x (defScope g.st) (He.ga K g.x) cdv A outer s H E0).nox) o.sc.kind o.m c, ρ, ⟨startE g.N args, sto⟩, W, _, start_rel sr pr, (con.2 k g hg _ _ _ h).2, ?_⟩
      have fin : ∀ {r x ρ' W' H'} {st' : Stt} {σ' : L2.St}, R r st'.sto → Step K ρ ⟨startE g.N args, sto⟩ W (L2.start g.N vs) H ρ' st' W' σ' H' → RRet K ρ' W' H H' r x → Q x H' := by
        intro r x ρ' W' H' st' σ' q st rr
        refine out r _ x ρ' W' H' q st.rel.s ⟨st.fr.keep, fun a w l => st.fr.hold a w fun z => l (start_lc z), st.fr.there⟩ st.pre (fun a ha => ?_) rr
        rcases st.sub a (.inl ha) with q | q
        · exact .inl (start_lc q)
        · exact .inr q
      exact ⟨fun st' ρ' W' σ' H' q s1 => fin (x := V.non) q s1 (by unfold RRet; exact Ev.R.non), fun o' st' ρ' W' σ' H' x q s1 t => fin q s1 (ret_ok s1 t), fun _ _ _ _ _ z => z.elim, fun _ _ _ _ _ z => z.elim⟩

/-- the law's promise -/
theorem law_sp {k : Nat} {a : Addr} {ns : List Int} {H : Hp} {f : String} (h : Sp k f [.scr ns] [] fun r _ => r = ⟨false, .dat (.bool true)⟩)
    (hH : (∃ o, H = fun b => if b = a then some (.frz o (.lst (ns.map V.int))) else none) ∨ (H = fun _ => none) ∧ SqL K (fun _ => none) a (ns.map V.int)) : spOf K (Sp k) f [.ref a] H (fun v _ => v = .bl true) := by
  refine ⟨[], [], fun _ => False, [.scr ns], _, ⟨rfl, .nil, fun j o a e => by simp at e, fun a z => z.elim⟩, .cons ⟨a, rfl, ?_⟩ .nil, h, fun r sto' x ρ' W' H' q _ _ _ _ rr => ?_⟩
  · rcases hH with ⟨o, rfl⟩ | ⟨_, q⟩
    · exact .inl ⟨o, fun z => z, by simp⟩
    · exact .inr q
  · subst q
    have rr : RVal K ρ' W' H' (.dat (.bool true)) x := rr
    cases (show R W' H' x (.bool true) from rr)
    rfl
end

/-! ### defs one behind another -/
def Has (S : SpecK) (f : String) (p : Pre) : Prop := ∀ args sto Q, p args sto Q → S f args sto Q
/-- d's body keeps p, whatever the defs ahead of it promise -/
def Keeps1 (S : SpecK) (d : DefI) (p : Pre) : Prop := ∀ args sto Q, p args sto Q → args.length = d.ps.length ∧ wpSs S d.body (ends Q) ⟨startE d.N args, sto⟩
def GoodL : List (DefI × Pre) → List (DefI × Pre) → Prop
  | _, [] => True
  | b, (d, p) :: r => (∀ S, (∀ x ∈ b, Has S x.1.nm x.2) → Keeps1 S d p) ∧ GoodL (b ++ [(d, p)]) r
def spT (T : List (DefI × Pre)) : Spec := fun k f args sto Q => ∃ (i : Nat) (d : DefI) (p : Pre), i < k ∧ T[i]? = some (d, p) ∧ d.nm = f ∧ p args sto Q
theorem GoodL.at_ : ∀ {r b : List (DefI × Pre)}, GoodL b r → ∀ {i : Nat} {d : DefI} {p : Pre}, r[i]? = some (d, p) → ∀ S, (∀ (j : Nat) (x : DefI × Pre), j < b.length + i → (b ++ r)[j]? = some x → Has S x.1.nm x.2) → Keeps1 S d p
  | [], b, _, i, d, p, e, _, _ => by simp at e
  | (d', p') :: r, b, g, 0, d, p, e, S, h => by
    simp at e
    obtain ⟨rfl, rfl⟩ := e
    refine g.1 S fun x hx => ?_
    obtain ⟨j, hj⟩ := List.mem_iff_getElem?.mp hx
    have hl := (List.getElem?_eq_some_iff.mp hj).1
    exact h j x (by omega) (by rw [List.getElem?_append_left hl]; exact hj)
  | (d', p') :: r, b, g, i + 1, d, p, e, S, h => by
    refine g.2.at_ (i := i) (by simpa using e) S fun j x hj hx => h j x (by simp at hj; omega) ?_
    rw [List.append_assoc] at hx
    exact hx
theorem con_of {T : List (DefI × Pre)} (g : GoodL [] T) (nd : (T.map fun x => x.1.nm).Nodup) : Con (T.map (·.1)) (spT T) := by
  refine ⟨fun f args sto Q ⟨i, _, _, h, _⟩ => absurd h (by omega), fun k d hd args sto Q ⟨i, d', p, hi, e, hn, hp⟩ => ?_⟩
  obtain ⟨⟨d0, p0⟩, hx, rfl⟩ := List.mem_map.mp hd
  obtain ⟨j, hj⟩ := List.mem_iff_getElem?.mp hx
  have : i = j := by
    have h1 : (T.map fun x => x.1.nm)[i]? = some d'.nm := by rw [List.getElem?_map, e]; rfl
    have h2 : (T.map fun x => x.1.nm)[j]? = some d0.nm := by rw [List.getElem?_map, hj]; rfl
    have hn : d'.nm = d0.nm := hn
    rw [hn] at h1
    obtain ⟨l1, e1⟩ := List.getElem?_eq_some_iff.mp h1
    obtain ⟨l2, e2⟩ := List.getElem?_eq_some_iff.mp h2
    exact (List.getElem_inj nd).mp (e1.trans e2.symm)
  subst this
  rw [e] at hj
  cases hj
  refine g.at_ e (spT T k) (fun j x hj hx args sto Q hp => ⟨j, x.1, x.2, by simp at hj; omega, by simpa using hx, rfl, hp⟩) _ _ _ hp
end Ev
end

section
set_option Elab.async false
set_option linter.all false
set_option maxRecDepth 100000
/-! Ev25: working with the weakest preconditions: outs, loops, comprehensions, repr, the drawn source. -/
namespace Ev
open PySem PySem.Spec PyProof.Rows L2

/-! ### outs -/
theorem okO_frz {v : Val} {st : Stt} : okO ⟨.frz, v⟩ st = True := rfl
theorem okO_fre {v : Val} {st : Stt} : okO ⟨.fre, v⟩ st = True := rfl
theorem okO_slot {i : Nat} {v : Val} {st : Stt} : okO ⟨.slot i, v⟩ st = (st.env[i]? = some (some ⟨true, v⟩)) := rfl
theorem frz_frz {v : Val} {st : Stt} : frz ⟨.frz, v⟩ st = st := rfl
theorem frz_fre {v : Val} {st : Stt} : frz ⟨.fre, v⟩ st = st := rfl
theorem frz_slot {i : Nat} {v : Val} {st : Stt} : frz ⟨.slot i, v⟩ st = { st with env := st.env.set i (some ⟨false, v⟩) } := rfl

theorem outD_int {i : Int} : outD (.int i) = ⟨.frz, .dat (.int i)⟩ := rfl
theorem outD_bool {i : Bool} : outD (.bool i) = ⟨.frz, .dat (.bool i)⟩ := rfl
theorem outD_str {i : Str} : outD (.str i) = ⟨.frz, .dat (.str i)⟩ := rfl
theorem outD_non : outD .none = ⟨.frz, .dat .none⟩ := rfl
theorem outD_tup {ds : List PyData} : outD (.tuple ds) = ⟨.frz, .dat (.tuple ds)⟩ := rfl
theorem outD_lst {ds : List PyData} : outD (.list ds) = ⟨.fre, .dat (.list ds)⟩ := rfl
theorem vw_dat {sto : List SObj} {d : PyData} : view sto (.dat d) = some d := rfl
theorem vws_nil {sto : List SObj} : views sto [] = some [] := rfl
theorem vws_cons {sto : List SObj} {t : Tag} {d : PyData} {os : List Out} : views sto (⟨t, .dat d⟩ :: os) = (views sto os).map (d :: ·) := by
  show (match some d, views sto os with | some d, some ds => some (d :: ds) | _, _ => none) = _
  cases views sto os <;> rfl
theorem dts_nil : dats [] = some [] := rfl
theorem dts_cons {t : Tag} {d : PyData} {os : List Out} : dats (⟨t, .dat d⟩ :: os) = (dats os).map (d :: ·) := rfl
theorem frzA_nil {st : Stt} : frzA [] st = st := rfl
theorem frzA_cons {o : Out} {os : List Out} {st : Stt} : frzA (o :: os) st = frzA os (frz o st) := rfl
section
variable {a b : Int} {x y : PyData} {ds es : List PyData} {k : PyData}
theorem c_lt : cmpA .Lt (.int a) (.int b) = some (decide (a < b)) := rfl
theorem c_le : cmpA .LtE (.int a) (.int b) = some (decide (a ≤ b)) := rfl
theorem c_gt : cmpA .Gt (.int a) (.int b) = some (decide (b < a)) := rfl
theorem c_ge : cmpA .GtE (.int a) (.int b) = some (decide (b ≤ a)) := rfl
theorem c_eqi : cmpA .Eq (.int a) (.int b) = some (decide (a = b)) := by
  show (if SeqAt.shaped (.int a) = true ∧ SeqAt.shaped (.int b) = true then some (PyData.eqv (.int a) (.int b)) else none) = _
  rw [if_pos ⟨rfl, rfl⟩]
  simp [PyData.eqv, Bool.beq_eq_decide_eq]
theorem c_nei : cmpA .NotEq (.int a) (.int b) = some (!decide (a = b)) := by
  show (eqD (.int a) (.int b)).map not = _
  have := c_eqi (a := a) (b := b)
  have h : eqD (.int a) (.int b) = some (decide (a = b)) := this
  rw [h]; rfl
theorem c_eqs {s t : Str} : cmpA .Eq (.str s) (.str t) = some (decide (s = t)) := rfl
theorem c_nes {s t : Str} : cmpA .NotEq (.str s) (.str t) = some (!decide (s = t)) := rfl
theorem c_in : cmpA .In x y = inD x y := rfl
theorem c_nin : cmpA .NotIn x y = (inD x y).map not := rfl
theorem n_add : binD .Add (.int a) (.int b) = some (.int (a + b)) := rfl
theorem n_sub : binD .Sub (.int a) (.int b) = some (.int (a - b)) := rfl
theorem n_mulR (h : -18446744073709551616 < b ∧ b < 18446744073709551616) : binD .Mult (.int a) (.int b) = some (.int (a * b)) := if_pos (.inr h)
theorem n_mulL (h : -18446744073709551616 < a ∧ a < 18446744073709551616) : binD .Mult (.int a) (.int b) = some (.int (a * b)) := if_pos (.inl h)
theorem n_div (h : 0 < b ∧ b < 1073741824) : binD .FloorDiv (.int a) (.int b) = some (.int (a / b)) := if_pos h
theorem n_mod (h : 0 < b) : binD .Mod (.int a) (.int b) = some (.int (a % b)) := if_pos h
theorem n_addL (h : ds.length + es.length ≤ SL) : binD .Add (.list ds) (.list es) = some (.list (ds ++ es)) := if_pos h
theorem n_addT (h : ds.length + es.length ≤ SL) : binD .Add (.tuple ds) (.tuple es) = some (.tuple (ds ++ es)) := if_pos h
theorem f_lenL : bD .len [.list ds] = some (.int ds.length) := rfl
theorem f_lenT : bD .len [.tuple ds] = some (.int ds.length) := rfl
theorem f_abs : bD .abs [.int a] = some (.int (if a < 0 then -a else a)) := rfl
theorem f_int : bD .int [.int a] = some (.int a) := rfl
theorem f_intB {b : Bool} : bD .int [.bool b] = some (.int (if b then 1 else 0)) := rfl
theorem f_min2 : bD .min [.int a, .int b] = some (.int (if b < a then b else a)) := rfl
theorem f_max2 : bD .max [.int a, .int b] = some (.int (if b > a then b else a)) := rfl
theorem f_tupL : bD .tuple [.list ds] = some (.tuple ds) := rfl
theorem f_tupT : bD .tuple [.tuple ds] = some (.tuple ds) := rfl
theorem f_lstL : bD .list [.list ds] = some (.list ds) := rfl
theorem f_lstT : bD .list [.tuple ds] = some (.list ds) := rfl
theorem f_srtL (h : sortOk ds = true) : bD .sorted [.list ds] = some (.list (srt ds)) := if_pos h
theorem f_srtT (h : sortOk ds = true) : bD .sorted [.tuple ds] = some (.list (srt ds)) := if_pos h
theorem f_rep (h : reprOk x) : bD .repr [x] = some (.str x.shown) := by
  show repD [x] = _
  unfold repD
  split
  · rename_i e
    cases e
    rfl
  · rename_i e
    cases e
    exact if_pos h
  · rename_i e1 e2
    exact absurd rfl (e2 x)
theorem revL : revD (.list ds) = some (.list ds.reverse) := rfl
theorem g_dat {sto : List SObj} {r : PyData} (h : idxD x k = some r) : getS sto (.dat x) (.dat k) = some ⟨.frz, .dat r⟩ := by simp [getS, h]
theorem i_T {i : Int} : idxD (.tuple ds) (.int i) = atI ds i := rfl
theorem i_L {i : Int} : idxD (.list ds) (.int i) = atI ds i := rfl
theorem at_nat {α : Type} {xs : List α} {i : Nat} {x : α} (h : xs[i]? = some x) : atI xs (i : Int) = some x := by
  have hl := (List.getElem?_eq_some_iff.mp h).1
  unfold atI ixN
  rw [if_pos (by omega), if_pos (by omega)]
  simpa using h
theorem at_pos {α : Type} {xs : List α} {i : Int} {x : α} (h0 : 0 ≤ i) (h : xs[i.toNat]? = some x) : atI xs i = some x := by
  have := at_nat h
  rwa [Int.toNat_of_nonneg h0] at this
end

/-! ### statement by statement -/
theorem step {S : SpecK} {s : IS} {ss : ISs} {E : EndsP} {st : Stt} (h : ∀ K, K = wpSs S ss E → wpS S s { E with nx := K } st) : wpSs S (.cons s ss) E st := h _ rfl
theorem last {S : SpecK} {E : EndsP} {st : Stt} (h : E.nx st) : wpSs S .nil E st := h

/-! ### loops -/
theorem loop_inv {α : Type} {enc : α → PyData} {step : PyData → (Stt → Prop) → Stt → Prop} {done : Stt → Prop} (I : List α → Stt → Prop) (hs : ∀ x r st K, I (x :: r) st → (∀ st', I r st' → K st') → step (enc x) K st) (hd : ∀ st, I [] st → done st) :
    ∀ (xs : List α) (st : Stt), I xs st → wpLoop step done (xs.map enc) st
  | [], st, h => hd st h
  | x :: r, st, h => hs x r st _ h fun st' h' => loop_inv I hs hd r st' h'
theorem comp_inv {α : Type} {enc : α → PyData} {chk : Stt → Prop} {step : PyData → (Option PyData → Stt → Prop) → Stt → Prop} {done : List PyData → Stt → Prop} (I : List α → List PyData → Stt → Prop)
    (hc : ∀ r acc st, I r acc st → chk st) (hl : ∀ x r acc st, I (x :: r) acc st → acc.length < SL) (hs : ∀ x r acc st K, I (x :: r) acc st → (∀ v st', (match v with | some d => I r (acc ++ [d]) st' | none => I r acc st') → K v st') → step (enc x) K st) (hd : ∀ acc st, I [] acc st → done acc st) :
    ∀ (xs : List α) (acc : List PyData) (st : Stt), I xs acc st → wpComp chk step done (xs.map enc) acc st
  | [], acc, st, h => ⟨hc _ _ _ h, hd _ _ h⟩
  | x :: r, acc, st, h => ⟨hc _ _ _ h, hl _ _ _ _ h, hs x r acc st _ h fun v st' h' => by
      cases v with
      | some d => exact comp_inv I hc hl hs hd r _ st' h'
      | none => exact comp_inv I hc hl hs hd r _ st' h'⟩
/-- nothing is changed by a turn -/
theorem comp_pure {α : Type} {enc : α → PyData} (f : α → Option PyData) {chk : Stt → Prop} {step : PyData → (Option PyData → Stt → Prop) → Stt → Prop} {done : List PyData → Stt → Prop} {st : Stt} {xs : List α} (hc : chk st) (hl : xs.length ≤ SL)
    (hs : ∀ x ∈ xs, ∀ K, K (f x) st → step (enc x) K st) (hd : done (xs.filterMap f) st) : wpComp chk step done (xs.map enc) [] st := by
  refine comp_inv (enc := enc) (fun r acc s => s = st ∧ acc.length + r.length ≤ SL ∧ acc ++ r.filterMap f = xs.filterMap f ∧ ∀ x ∈ r, x ∈ xs) ?_ ?_ ?_ ?_ xs [] st ⟨rfl, by simpa using hl, rfl, fun _ h => h⟩
  · rintro r acc s ⟨rfl, _⟩; exact hc
  · rintro x r acc s ⟨_, h, _⟩; simp at h; omega
  · rintro x r acc s K ⟨rfl, h1, h2, h3⟩ hK
    refine hs x (h3 x List.mem_cons_self) K (hK _ _ ?_)
    have h3' : ∀ y ∈ r, y ∈ xs := fun y hy => h3 y (List.mem_cons_of_mem _ hy)
    cases e : f x with
    | none =>
      refine ⟨rfl, by simp at h1; omega, ?_, h3'⟩
      rw [List.filterMap_cons, e] at h2; exact h2
    | some d =>
      refine ⟨rfl, by simp at h1 ⊢; omega, ?_, h3'⟩
      rw [List.filterMap_cons, e] at h2
      rw [← h2]; simp
  · rintro acc s ⟨rfl, _, h, _⟩
    have h : acc = xs.filterMap f := by simpa using h
    rw [h]; exact hd
/-- no test, nothing is changed -/
theorem comp_map {α : Type} {enc : α → PyData} (g : α → PyData) {chk : Stt → Prop} {step : PyData → (Option PyData → Stt → Prop) → Stt → Prop} {done : List PyData → Stt → Prop} {st : Stt} {xs : List α} (hc : chk st) (hl : xs.length ≤ SL)
    (hs : ∀ x ∈ xs, ∀ K, K (some (g x)) st → step (enc x) K st) (hd : done (xs.map g) st) : wpComp chk step done (xs.map enc) [] st := by
  refine comp_pure (fun x => some (g x)) hc hl hs ?_
  have : xs.filterMap (fun x => some (g x)) = xs.map g := by
    induction xs with
    | nil => rfl
    | cons x r ih => simp [List.filterMap_cons]
  rw [this]; exact hd
/-- a test, the item itself -/
theorem comp_filter {α : Type} {enc : α → PyData} (p : α → Bool) (g : α → PyData) {chk : Stt → Prop} {step : PyData → (Option PyData → Stt → Prop) → Stt → Prop} {done : List PyData → Stt → Prop} {st : Stt} {xs : List α} (hc : chk st) (hl : xs.length ≤ SL)
    (hs : ∀ x ∈ xs, ∀ K, K (if p x then some (g x) else none) st → step (enc x) K st) (hd : done ((xs.filter p).map g) st) : wpComp chk step done (xs.map enc) [] st := by
  refine comp_pure (fun x => if p x then some (g x) else none) hc hl hs ?_
  have : xs.filterMap (fun x => if p x then some (g x) else none) = (xs.filter p).map g := by
    clear hs hd hl
    induction xs with
    | nil => rfl
    | cons x r ih => by_cases e : p x = true <;> simp [List.filterMap_cons, e, ih]
  rw [this]; exact hd
theorem rngD_eq : ∀ (n : Nat) (lo : Int), rngD lo n = (List.range n).map fun i : Nat => PyData.int (lo + i)
  | 0, _ => rfl
  | n + 1, lo => by
    rw [List.range_succ_eq_map, List.map_cons, List.map_map]
    unfold rngD
    rw [rngD_eq n (lo + 1)]
    simp only [Int.ofNat_zero, Int.add_zero, Function.comp_def]
    congr 1
    refine List.map_congr_left fun i _ => ?_
    congr 1
    omega
theorem zipD_map {α β : Type} (f : α → PyData) (g : β → PyData) : ∀ (xs : List α) (ys : List β), zipD (xs.map f) (ys.map g) = (xs.zip ys).map fun p => .tuple [f p.1, g p.2]
  | [], _ => rfl
  | _ :: _, [] => rfl
  | x :: xs, y :: ys => by simp [zipD, zipD_map f g xs ys]
theorem enum_map {α : Type} (f : α → PyData) : ∀ (xs : List α) (k : Int) (j : Nat), k = j → enumFrom k (xs.map f) = (xs.zipIdx j).map fun p => .tuple [.int (p.2 : Int), f p.1]
  | [], _, _, _ => rfl
  | x :: xs, k, j, h => by
    rw [List.map_cons, List.zipIdx_cons, List.map_cons]
    unfold enumFrom
    rw [enum_map f xs (k + 1) (j + 1) (by omega), h]

/-! ### what repr takes -/
structure Sz (d : PyData) (n k : Nat) : Prop where
  sh : d.showable = true
  len : d.shown.length ≤ n
  dp : d.depth ≤ k
  nd : dE d = true
theorem Sz.mono {d : PyData} {n k n' k' : Nat} (h : Sz d n k) (h1 : n ≤ n') (h2 : k ≤ k') : Sz d n' k' := ⟨h.sh, Nat.le_trans h.len h1, Nat.le_trans h.dp h2, h.nd⟩
theorem Sz.ok {d : PyData} {n k : Nat} (h : Sz d n k) (h1 : n ≤ SL) (h2 : k ≤ 100) : reprOk d := ⟨h.sh, Nat.le_trans h.dp h2, Nat.le_trans h.len h1, h.nd⟩
theorem sz_non : Sz .none 5 0 := ⟨rfl, by decide +kernel, by decide, rfl⟩
theorem sz_edict : Sz (.dict []) 2 1 := ⟨rfl, by decide +kernel, by decide, rfl⟩
theorem sz_bool (b : Bool) : Sz (.bool b) 5 0 := by cases b <;> exact ⟨rfl, by decide +kernel, by decide, rfl⟩
theorem sz_int {i : Int} (h : i.natAbs < 10 ^ 40) : Sz (.int i) 41 0 := by
  refine ⟨?_, ?_, Nat.le_refl _, rfl⟩
  · simp only [PyData.showable, decide_eq_true_eq]
    have : i.natAbs < 2 ^ 200 := Nat.lt_of_lt_of_le h (by decide)
    by_cases e : i.natAbs = 0
    · rw [e]; decide
    · have := (Nat.log2_lt e).mpr this
      omega
  · show (Str.ofString (toString i)).length ≤ 41
    rw [PySem.ofString_length]
    exact int_text_length_le10 (k := 40) (by decide) h
theorem piled_le {ts : List Str} {n : Nat} (h : ∀ t ∈ ts, t.length ≤ n) : piled ts ≤ ts.length * (n + 2) := by
  induction ts with
  | nil => simp [piled]
  | cons t r ih =>
    have h1 := h t List.mem_cons_self
    have h2 := ih fun x hx => h x (List.mem_cons_of_mem _ hx)
    rw [piled_cons, List.length_cons, Nat.add_mul, Nat.one_mul]
    omega
theorem textFrom_le {n : Nat} : ∀ (ts : List Str) (k : Nat) (acc : Str), (∀ t ∈ ts, t.length ≤ n) → (textFrom k acc ts).length ≤ acc.length + ts.length * (n + 2)
  | [], k, acc, _ => by show acc.length ≤ _; omega
  | t :: r, k, acc, h => by
    have ih := textFrom_le r (k + 1) (acc ++ (if k > 0 then ", " else "" : String) ++ t) fun x hx => h x (List.mem_cons_of_mem _ hx)
    have e : (acc ++ (if k > 0 then ", " else "" : String) ++ t).length = acc.length + (if k > 0 then 2 else 0) + t.length := by
      rw [strLen_append, strLen_append]
      split <;> rfl
    have h1 := h t List.mem_cons_self
    rw [e] at ih
    show (textFrom (k + 1) (acc ++ (if k > 0 then ", " else "" : String) ++ t) r).length ≤ _
    rw [List.length_cons, Nat.add_mul, Nat.one_mul]
    have e2 : (if k > 0 then 2 else 0) ≤ 2 := by split <;> omega
    omega
theorem shownAll_mem {n : Nat} : ∀ {ds : List PyData}, (∀ d ∈ ds, d.shown.length ≤ n) → ∀ t ∈ PyData.shownAll ds, t.length ≤ n
  | [], _, t, h => by simp [PyData.shownAll] at h
  | d :: ds, h, t, ht => by
    simp only [PyData.shownAll, List.mem_cons] at ht
    rcases ht with rfl | ht
    · exact h d List.mem_cons_self
    · exact shownAll_mem (fun x hx => h x (List.mem_cons_of_mem _ hx)) t ht
theorem shownAll_len : ∀ ds : List PyData, (PyData.shownAll ds).length = ds.length
  | [] => rfl
  | d :: ds => by simp [PyData.shownAll, shownAll_len ds]
theorem showableAll_of : ∀ {ds : List PyData}, (∀ d ∈ ds, d.showable = true) → PyData.showableAll ds = true
  | [], _ => rfl
  | d :: ds, h => by
    simp only [PyData.showableAll, Bool.and_eq_true]
    exact ⟨h d List.mem_cons_self, showableAll_of fun x hx => h x (List.mem_cons_of_mem _ hx)⟩
theorem depthAll_of {k : Nat} : ∀ {ds : List PyData}, (∀ d ∈ ds, d.depth ≤ k) → PyData.depthAll ds ≤ k
  | [], _ => Nat.zero_le _
  | d :: ds, h => by
    simp only [PyData.depthAll]
    exact Nat.max_le.mpr ⟨h d List.mem_cons_self, depthAll_of fun x hx => h x (List.mem_cons_of_mem _ hx)⟩
theorem dEs_of : ∀ {ds : List PyData}, (∀ d ∈ ds, dE d = true) → dEs ds = true
  | [], _ => rfl
  | d :: ds, h => by
    simp only [dEs, Bool.and_eq_true]
    exact ⟨h d List.mem_cons_self, dEs_of fun x hx => h x (List.mem_cons_of_mem _ hx)⟩
theorem sz_lst {ds : List PyData} {n k : Nat} (h : ∀ d ∈ ds, Sz d n k) : Sz (.list ds) (ds.length * (n + 2) + 2) (k + 1) := by
  refine ⟨?_, ?_, ?_, ?_⟩
  · simp only [PyData.showable]; exact showableAll_of fun d hd => (h d hd).sh
  · have := textFrom_le (n := n) (PyData.shownAll ds) 0 "[" (shownAll_mem fun d hd => (h d hd).len)
    simp only [PyData.shown, listText]
    rw [strLen_append]
    rw [shownAll_len] at this
    have e1 : (("[" : String) : Str).length = 1 := rfl
    have e2 : (("]" : String) : Str).length = 1 := rfl
    have e3 : ("[" : Str).length = 1 := rfl
    have e4 : ("]" : Str).length = 1 := rfl
    omega
  · simp only [PyData.depth]
    have := depthAll_of (k := k) fun d hd => (h d hd).dp
    omega
  · simp only [dE]; exact dEs_of fun d hd => (h d hd).nd
theorem sz_tup {ds : List PyData} {n k : Nat} (h : ∀ d ∈ ds, Sz d n k) : Sz (.tuple ds) (ds.length * (n + 2) + 3) (k + 1) := by
  refine ⟨?_, ?_, ?_, ?_⟩
  · simp only [PyData.showable]; exact showableAll_of fun d hd => (h d hd).sh
  · simp only [PyData.shown, tupleText]
    rw [strLen_append, strLen_append]
    have e3 : ("(" : Str).length = 1 := rfl
    have e5 : ((if (PyData.shownAll ds).length == 1 then ",)" else ")" : String) : Str).length ≤ 2 := by split <;> decide
    by_cases hd : PyData.shownAll ds = []
    · have hz : ds.length = 0 := by rw [← shownAll_len, hd]; rfl
      rw [hd] at e5 ⊢
      have e4 : (Str.join ", " []).length = 0 := rfl
      omega
    · have h1 := join_length_add _ hd
      have h2 := piled_le (n := n) (shownAll_mem fun d hd => (h d hd).len)
      rw [shownAll_len] at h2
      omega
  · simp only [PyData.depth]
    have := depthAll_of (k := k) fun d hd => (h d hd).dp
    omega
  · simp only [dE]; exact dEs_of fun d hd => (h d hd).nd
end Ev
end

section
set_option Elab.async false
set_option linter.all false
set_option maxRecDepth 100000
/-! Ev26: the drawn source: its record, what is picked. -/
namespace Ev
open PySem PySem.Spec PyProof.Rows L2

def rec4 (a b c d : SV) : List (Str × SV) := [("cells", a), ("left", b), ("mixed", c), ("turn", d)]
def SrcS (cells : List Int) (left mixed turn : Int) : List SObj := [.lst cells, .rcd (rec4 (.ref 0) (.int left) (.int mixed) (.int turn))]
/-- the drawn source stands in the store -/
def SrcOk (sto : List SObj) : Prop := ∃ cells left mixed turn, sto = SrcS cells left mixed turn
section
variable {a b c d v : SV}
theorem look_cells : (rec4 a b c d).lookup ("cells" : Str) = some a := rfl
theorem look_left : (rec4 a b c d).lookup ("left" : Str) = some b := rfl
theorem look_mixed : (rec4 a b c d).lookup ("mixed" : Str) = some c := rfl
theorem look_turn : (rec4 a b c d).lookup ("turn" : Str) = some d := rfl
theorem put_left : putF "left" v (rec4 a b c d) = rec4 a v c d := rfl
theorem put_turn : putF "turn" v (rec4 a b c d) = rec4 a b c v := rfl
theorem len4 : (rec4 a b c d).length = 4 := rfl
end
theorem intsOf_map : ∀ ns : List Int, intsOf (ns.map PyData.int) = some ns
  | [] => rfl
  | n :: r => by simp [intsOf, intsOf_map r]

section
variable {cells : List Int} {left mixed turn n : Int} {env : List (Option EV)}
theorem gs_cells : getS (SrcS cells left mixed turn) (.ref 1) (.dat (.str "cells")) = some ⟨.frz, .ref 0⟩ := rfl
theorem gs_left : getS (SrcS cells left mixed turn) (.ref 1) (.dat (.str "left")) = some ⟨.frz, .dat (.int left)⟩ := rfl
theorem gs_mixed : getS (SrcS cells left mixed turn) (.ref 1) (.dat (.str "mixed")) = some ⟨.frz, .dat (.int mixed)⟩ := rfl
theorem gs_turn : getS (SrcS cells left mixed turn) (.ref 1) (.dat (.str "turn")) = some ⟨.frz, .dat (.int turn)⟩ := rfl
theorem vs_cells {t : Tag} : views (SrcS cells left mixed turn) [⟨t, .ref 0⟩] = some [.list (cells.map PyData.int)] := rfl
theorem ps_left {t : Tag} : putS ⟨.frz, .ref 1⟩ ⟨.frz, .dat (.str "left")⟩ ⟨.frz, .dat (.int n)⟩ ⟨env, SrcS cells left mixed turn⟩ = some ⟨env, SrcS cells n mixed turn⟩ := rfl
theorem ps_turn {t : Tag} : putS ⟨.frz, .ref 1⟩ ⟨.frz, .dat (.str "turn")⟩ ⟨.frz, .dat (.int n)⟩ ⟨env, SrcS cells left mixed turn⟩ = some ⟨env, SrcS cells left mixed n⟩ := rfl
theorem lst_cells : lstOf ⟨.frz, .ref 0⟩ ⟨env, SrcS cells left mixed turn⟩ = some (cells.map PyData.int) := rfl
theorem pop_cells (h : cells ≠ []) : ∃ m cells', cells'.length < cells.length ∧ popS ⟨.frz, .ref 0⟩ [] ⟨env, SrcS cells left mixed turn⟩ = some (.int m, ⟨env, SrcS cells' left mixed turn⟩) := by
  refine ⟨cells.getLast h, cells.dropLast, ?_, ?_⟩
  · have := List.length_pos_iff.mpr h
    simp; omega
  · unfold popS
    rw [lst_cells]
    simp only
    have e : (cells.map PyData.int)[(cells.map PyData.int).length - 1]? = some (.int (cells.getLast h)) := by
      rw [List.length_map, List.getElem?_map, ← List.getLast?_eq_getElem?, List.getLast?_eq_some_getLast h]
      rfl
    rw [e]
    simp only [setLst, ← List.map_dropLast, intsOf_map]
    rfl
end
def B_pick : ISs := (.cons (.ife (.cmp .Lt (.var 1) (.int 2)) (.cons (.ret (.int 0)) .nil) .nil) (.cons (.asg 2 (.idx (.var 0) (.str "cells"))) (.cons (.whl (.bop true (.cons (.cmp .Lt (.idx (.var 0) (.str "left")) (.int 2)) (.cons (.cmp .Gt (.bcl .len (.cons (.var 2) .nil)) (.int 0)) .nil))) (.cons (.put (.var 0) (.str "left") (.pop (.var 2) .nil)) .nil)) (.cons (.asg 3 (.idx (.var 0) (.str "left"))) (.cons (.ife (.cmp .Gt (.var 3) (.int 1)) (.cons (.put (.var 0) (.str "left") (.bin .FloorDiv (.var 3) (.var 1))) (.cons (.ret (.bin .Mod (.bcl .int (.cons (.var 3) .nil)) (.var 1))) .nil)) .nil) (.cons (.put (.var 0) (.str "turn") (.bin .Add (.idx (.var 0) (.str "turn")) (.int 1))) (.cons (.asg 4 (.idx (.var 0) (.str "turn"))) (.cons (.asg 5 (.bin .Mod (.bcl .int (.cons (.bin .Add (.idx (.var 0) (.str "mixed")) (.bin .Mult (.var 4) (.int 104729))) .nil)) (.int 998244353))) (.cons (.asg 5 (.bin .Mod (.bcl .int (.cons (.bin .Add (.bin .Mult (.var 5) (.var 5)) (.bin .Mult (.var 4) (.int 17))) .nil)) (.int 2147483647))) (.cons (.ret (.bin .Mod (.bcl .int (.cons (.bin .FloorDiv (.var 5) (.int 16)) .nil)) (.var 1))) .nil))))))))))
def p_pick : Pre := fun args sto Q => ∃ most : Int, args = [.ref 1, .dat (.int most)] ∧ most < 1073741824 ∧ SrcOk sto ∧ ∀ v sto', SrcOk sto' → 0 ≤ v → (v < most ∨ v = 0) → Q ⟨false, .dat (.int v)⟩ sto'
theorem g_pick (S : SpecK) (d : DefI) (hb : d.body = B_pick) (hN : d.N.length = 6) (hp : d.ps.length = 2) : Keeps1 S d p_pick := by
  rintro args sto Q ⟨most, rfl, hm, ⟨cells, left, mixed, turn, rfl⟩, h⟩
  refine ⟨hp.symm, ?_⟩
  rw [hb]
  unfold B_pick
  have h0 : startE d.N [.ref 1, .dat (.int most)] = [some ⟨false, .ref 1⟩, some ⟨false, .dat (.int most)⟩, none, none, none, none] := by simp [startE, hN, List.replicate]
  rw [h0]
  refine step fun K hK => ?_
  simp [wpS, wpT, wpX, both, okO_frz, vw_dat, c_lt]
  by_cases hm2 : most < 2
  · refine .inr ⟨hm2, step fun K _ => ?_⟩
    simp [wpS, wpE, wpX, both, ends, retEV, ownO]
    exact h 0 _ ⟨_, _, _, _, rfl⟩ (by omega) (.inr rfl)
  refine .inl ⟨by omega, last ?_⟩
  subst hK
  refine step fun K hK => ?_
  simp [wpS, wpE, wpX, both, okO_frz, frz_frz, gs_cells, setO]
  subst hK
  refine step fun K hK => ?_
  refine ⟨fun m st' => ∃ cells left, m = cells.length ∧ st' = ⟨[some ⟨false, .ref 1⟩, some ⟨false, .dat (.int most)⟩, some ⟨false, .ref 0⟩, none, none, none], SrcS cells left mixed turn⟩, ⟨_, cells, left, rfl, rfl⟩, ?_⟩
  rintro m st' ⟨cells, left, rfl, rfl⟩
  have rest : ∀ cells left, K ⟨[some ⟨false, .ref 1⟩, some ⟨false, .dat (.int most)⟩, some ⟨false, .ref 0⟩, none, none, none], SrcS cells left mixed turn⟩ := by
    intro cells left
    subst hK
    refine step fun K hK => ?_
    simp [wpS, wpE, wpX, both, okO_frz, frz_frz, gs_left, setO]
    subst hK
    refine step fun K hK => ?_
    simp [wpS, wpT, wpX, both, okO_frz, vw_dat, c_gt]
    by_cases h1 : 1 < left
    · refine .inr ⟨h1, step fun K hK => ?_⟩
      simp [wpS, wpE, wpX, both, okO_frz, vw_dat, n_div, outD_int, ps_left, show 0 < most by omega, hm]
      subst hK
      refine step fun K hK => ?_
      simp [wpS, wpE, wpX, wpA, both, okO_frz, vw_dat, vws_cons, vws_nil, f_int, n_mod, outD_int, show 0 < most by omega, ends, retEV, ownO]
      exact h _ _ ⟨_, _, _, _, rfl⟩ (Int.emod_nonneg _ (by omega)) (.inl (Int.emod_lt_of_pos _ (by omega)))
    · refine .inl ⟨by omega, last ?_⟩
      subst hK
      refine step fun K hK => ?_
      simp [wpS, wpE, wpX, both, okO_frz, vw_dat, gs_turn, n_add, outD_int, ps_turn]
      subst hK
      refine step fun K hK => ?_
      simp [wpS, wpE, wpX, both, okO_frz, frz_frz, gs_turn, setO]
      subst hK
      refine step fun K hK => ?_
      simp [wpS, wpE, wpX, wpA, both, okO_frz, frz_frz, gs_mixed, setO, vw_dat, vws_cons, vws_nil, n_add, n_mulR, n_mod, outD_int, f_int]
      subst hK
      refine step fun K hK => ?_
      have b1 := Int.emod_nonneg (mixed + (turn + 1) * 104729) (b := 998244353) (by omega)
      have b2 := Int.emod_lt_of_pos (mixed + (turn + 1) * 104729) (b := 998244353) (by omega)
      generalize (mixed + (turn + 1) * 104729) % 998244353 = x at b1 b2
      have hx := n_mulL (a := x) (b := x) ⟨by omega, by omega⟩
      have hy := n_mulR (a := turn + 1) (b := 17) ⟨by omega, by omega⟩
      simp [wpS, wpE, wpX, wpA, both, okO_frz, frz_frz, setO, vw_dat, vws_cons, vws_nil, n_add, n_mod, outD_int, f_int, hx, hy]
      subst hK
      refine step fun K hK => ?_
      simp [wpS, wpE, wpX, wpA, both, okO_frz, frz_frz, setO, vw_dat, vws_cons, vws_nil, n_div, n_mod, outD_int, f_int, show 0 < most by omega, ends, retEV, ownO]
      exact h _ _ ⟨_, _, _, _, rfl⟩ (Int.emod_nonneg _ (by omega)) (.inl (Int.emod_lt_of_pos _ (by omega)))
  simp [wpT, wpX, wpB, wpA, both, okO_frz, frz_frz, gs_left, vw_dat, vs_cells, c_lt, c_gt, f_lenL, outD_int]
  by_cases h1 : left < 2
  · refine .inr ⟨h1, ?_⟩
    by_cases h2 : cells = []
    · exact .inl ⟨h2, rest _ _⟩
    · refine .inr ⟨List.length_pos_iff.mpr h2, step fun K' hK' => ?_⟩
      obtain ⟨m, cells', hl, e⟩ := pop_cells (left := left) (mixed := mixed) (turn := turn) (env := [some ⟨false, .ref 1⟩, some ⟨false, .dat (.int most)⟩, some ⟨false, .ref 0⟩, none, none, none]) h2
      simp [wpS, wpE, wpX, wpA, both, okO_frz, lst_cells, e]
      refine ⟨_, _, ⟨rfl, rfl⟩, ?_⟩
      simp [okO_frz, ps_left]
      subst hK'
      refine last ?_
      exact ⟨_, hl, cells', rfl, m, rfl⟩
  · exact .inl ⟨by omega, rest _ _⟩

def B_source : ISs := (.cons (.asg 1 (.int 11)) (.cons (.for_ (.nm 2) (.ex (.var 0)) (.cons (.asg 1 (.bin .Mod (.bcl .int (.cons (.bin .Add (.bin .Add (.bin .Mult (.var 1) (.int 69069)) (.bin .Mult (.var 2) (.int 31))) (.int 5)) .nil)) (.int 2147483629))) .nil)) (.cons (.asg 3 (.comp (.bcl .abs (.cons (.var 2) .nil)) (.nm 2) (.ex (.var 0)) .no [2])) (.cons (.ret (.rcd (.cons "cells" (.rev (.var 3)) (.cons "left" (.int 1) (.cons "mixed" (.var 1) (.cons "turn" (.int 0) .nil)))))) .nil))))
def p_source : Pre := fun args sto Q => ∃ ns : List Int, args = [.scr ns] ∧ sto = [] ∧ ns.length ≤ 1000 ∧ ∀ cells mixed, Q ⟨false, .ref 1⟩ (SrcS cells 1 mixed 0)
theorem g_source (S : SpecK) (d : DefI) (hb : d.body = B_source) (hN : d.N.length = 4) (hp : d.ps.length = 1) : Keeps1 S d p_source := by
  rintro args sto Q ⟨ns, rfl, rfl, hl, h⟩
  refine ⟨hp.symm, ?_⟩
  rw [hb]
  unfold B_source
  have h0 : startE d.N [.scr ns] = [some ⟨false, .scr ns⟩, none, none, none] := by simp [startE, hN, List.replicate]
  rw [h0]
  refine step fun K hK => ?_
  simp [wpS, wpE, wpX, both, frz_frz, setO]
  subst hK
  refine step fun K hK => ?_
  simp only [wpS, wpI, wpX, both, List.getElem?_cons_zero]
  refine ⟨_, rfl, ?_⟩
  simp only [Bool.false_eq_true, if_false, frzA_cons, frzA_nil, frz_frz]
  refine loop_inv (fun r st => ∃ (m : Int) (c : Option EV), st = ⟨[some ⟨false, .scr ns⟩, some ⟨false, .dat (.int m)⟩, c, none], []⟩) ?_ ?_ ns _ ⟨11, none, rfl⟩
  · rintro x r st K' ⟨m, c, rfl⟩ hK'
    refine ⟨_, rfl, step fun K2 hK2 => ?_⟩
    simp [wpS, wpE, wpX, wpA, both, okO_frz, frz_frz, setO, vw_dat, vws_cons, vws_nil, n_add, n_mulR, n_mod, outD_int, f_int]
    subst hK2
    exact last (hK' _ ⟨_, _, rfl⟩)
  · rintro st ⟨m, c, rfl⟩
    subst hK
    refine step fun K hK => ?_
    simp only [wpS, wpE, wpX, wpI, both, List.getElem?_cons_zero]
    refine ⟨_, rfl, ?_⟩
    simp only [wipeE, List.set_cons_succ, List.set_cons_zero]
    have habs : (ns.map fun i : Int => PyData.int (if i < 0 then -i else i)) = (ns.map fun i : Int => if i < 0 then -i else i).map PyData.int := by rw [List.map_map]; rfl
    refine comp_map (fun i : Int => .int (if i < 0 then -i else i)) ?_ (by show _ ≤ 16777216; omega) (fun x _ K' hK' => ?_) ?_
    · intro o ho
      simp at ho
      subst ho
      exact okO_frz ▸ trivial
    · refine ⟨_, rfl, ?_⟩
      simp [wpC, wpA, wpX, both, okO_frz, frz_frz, vws_cons, vws_nil, f_abs, outD_int]
      exact hK'
    · simp only [frz_fre, setO, backE, List.set_cons_succ, List.set_cons_zero]
      simp
      subst hK
      rw [habs]
      generalize (ns.map fun i : Int => if i < 0 then -i else i) = cells
      refine step fun K hK => ?_
      simp [wpS, wpE, wpX, wpR, both, ends, retEV, ownO, vw_dat, revL, outD_lst, okO_slot]
      exact ⟨cells.reverse, by rw [List.map_reverse], h _ _⟩

def B_mixed : ISs := (.cons (.asg 2 (.bcl .list (.cons (.var 1) .nil))) (.cons (.ret (.comp (.pop (.var 2) (.cons (.call "_law_pick" (.cons (.var 0) (.cons (.bcl .len (.cons (.var 2) .nil)) .nil))) .nil)) (.nm 3) (.rg1 (.bcl .len (.cons (.var 2) .nil))) .no [3])) .nil))
/-- the things in a drawn order -/
def p_mixed : Pre := fun args sto Q => ∃ (d : PyData) (ds : List PyData), args = [.ref 1, .dat d] ∧ seqD d = some ds ∧ ds.length ≤ 100000 ∧ SrcOk sto ∧ ∀ r sto', SrcOk sto' → r.Perm ds → Q ⟨true, .dat (.list r)⟩ sto'
theorem pop_at {ds : List PyData} {n : Int} {k : Nat} {env : List (Option EV)} {sto : List SObj} {j : Nat} (hl : ds.length ≤ SL) (hj : env[j]? = some (some ⟨true, .dat (.list ds)⟩)) (hn : n = k) (hk : k < ds.length) :
    popS ⟨.slot j, .dat (.list ds)⟩ [.dat (.int n)] ⟨env, sto⟩ = some (ds[k], ⟨env.set j (some ⟨true, .dat (.list (ds.eraseIdx k))⟩), sto⟩) := by
  subst hn
  unfold popS lstOf
  simp only [hj]
  have e : ixN ds.length (k : Int) = some k := by unfold ixN; rw [if_pos (by omega), if_pos (by omega)]; simp
  simp [hl, e, setLst, hk]
theorem erase_perm {α : Type} : ∀ (l : List α) (k : Nat) (h : k < l.length), (l[k] :: l.eraseIdx k).Perm l
  | [], k, h => by simp at h
  | a :: l, 0, _ => by simp
  | a :: l, k + 1, h => by
    simp only [List.getElem_cons_succ, List.eraseIdx_cons_succ]
    exact (List.Perm.swap _ _ _).trans ((erase_perm l k (by simpa using h)).cons a)
theorem g_mixed (S : SpecK) (d : DefI) (hb : d.body = B_mixed) (hN : d.N.length = 4) (hp : d.ps.length = 2) (hpick : Has S "_law_pick" p_pick) : Keeps1 S d p_mixed := by
  rintro args sto Q ⟨dd, ds, rfl, hds, hl, hs, h⟩
  refine ⟨hp.symm, ?_⟩
  rw [hb]
  unfold B_mixed
  have h0 : startE d.N [.ref 1, .dat dd] = [some ⟨false, .ref 1⟩, some ⟨false, .dat dd⟩, none, none] := by simp [startE, hN, List.replicate]
  rw [h0]
  have hlist : bD .list [dd] = some (.list ds) := by
    cases dd <;> simp [seqD] at hds
    · subst hds; rfl
    · subst hds; rfl
  refine step fun K hK => ?_
  simp [wpS, wpE, wpX, wpA, both, okO_frz, vws_cons, vws_nil, hlist, outD_lst, frz_fre, setO]
  subst hK
  refine step fun K hK => ?_
  simp only [wpS, wpE, wpX, wpI, wpA, both, List.getElem?_cons_zero, List.getElem?_cons_succ, if_true, okO_slot, vws_cons, vws_nil]
  refine ⟨trivial, [.list ds], _, rfl, rfl, ds.length, rfl, ⟨by omega, by omega⟩, ?_⟩
  simp only [wipeE, List.set_cons_succ, List.set_cons_zero, Int.toNat_natCast, rngD_eq]
  have hSL : SL = 16777216 := rfl
  refine comp_inv (enc := fun i : Nat => PyData.int (0 + (i : Int))) (fun r acc st => ∃ rest sto, st = ⟨[some ⟨false, .ref 1⟩, some ⟨false, .dat dd⟩, some ⟨true, .dat (.list rest)⟩, none], sto⟩ ∧ SrcOk sto ∧ rest.length = r.length ∧ (acc ++ rest).Perm ds) ?_ ?_ ?_ ?_ (List.range ds.length) [] _ ⟨ds, sto, rfl, hs, by simp, List.Perm.refl _⟩
  · rintro r acc st _ o ho
    simp at ho
  · rintro x r acc st ⟨rest, sto, _, _, h1, h2⟩
    have := h2.length_eq
    simp at this h1
    omega
  · rintro x r acc st K' ⟨rest, sto, rfl, h1, h2, h3⟩ hK'
    have h4 := h3.length_eq
    simp at h4 h2
    refine ⟨_, rfl, ?_⟩
    simp only [wpC, wpX, wpA, wpE, both, List.getElem?_cons_zero, List.getElem?_cons_succ, if_true, okO_slot, okO_frz, lstOf, Option.isSome_some, vws_cons, vws_nil, List.set_cons_succ, List.set_cons_zero]
    refine ⟨trivial, trivial, _, _, rfl, f_lenL, trivial, trivial, hpick _ _ _ ⟨rest.length, rfl, by omega, h1, fun v sto' hs' h0 hv => ?_⟩⟩
    simp only [Bool.false_eq_true, if_false, scalarV, if_true, List.map_cons, List.map_nil]
    obtain ⟨k, rfl⟩ := Int.eq_ofNat_of_zero_le h0
    have hk : k < rest.length := by omega
    refine ⟨trivial, _, _, pop_at (k := k) (by omega) rfl rfl hk, _, rfl, hK' _ _ ⟨rest.eraseIdx k, sto', ?_, hs', ?_, ?_⟩⟩
    · simp [frz_frz]
    · rw [List.length_eraseIdx, if_pos hk]; omega
    · have := (erase_perm rest k hk).append_left acc
      simpa using this.trans h3
  · rintro acc st ⟨rest, sto, rfl, h1, h2, h3⟩
    have : rest = [] := List.eq_nil_of_length_eq_zero h2
    subst this
    simp only [backE, List.set_cons_succ, List.set_cons_zero, ends, retEV, ownO]
    exact h acc sto h1 (by simpa using h3)
end Ev
end

section
set_option Elab.async false
set_option linter.all false
set_option maxRecDepth 100000
/-! Ev27: ints, pairs, lots, nets as data: what is asked of them. -/
namespace Ev
open PySem PySem.Spec PyProof.Rows L2

def il (l : List Int) : PyData := .tuple (l.map .int)
def lk (p : Int × Int) : PyData := .tuple [.int p.1, .int p.2]
def netD (n : Int) (ls : List (Int × Int)) : PyData := .tuple [.int n, .tuple (ls.map lk)]
theorem SL_eq : SL = 16777216 := rfl

/-! ### in, == -/
theorem canLay_ints : ∀ l : List Int, PyData.canLayAll0 (l.map .int) = true
  | [] => rfl
  | _ :: r => by simp only [List.map_cons, PyData.canLayAll0, PyData.canLay0, Bool.true_and]; exact canLay_ints r
theorem shaped_int (a : Int) : SeqAt.shaped (.int a) = true := rfl
theorem shaped_il (l : List Int) : SeqAt.shaped (il l) = true := by
  unfold SeqAt.shaped il
  simp only [PyData.canLay0, PyData.depth, canLay_ints, PySem.W.depth_ints, Bool.true_and]
  rfl
theorem shaped_ilL (l : List Int) : SeqAt.shaped (.list (l.map .int)) = true := by
  unfold SeqAt.shaped
  simp only [PyData.canLay0, PyData.depth, canLay_ints, PySem.W.depth_ints, Bool.true_and]
  rfl
theorem any_int (a : Int) : ∀ l : List Int, ((l.map PyData.int).any fun z => PyData.eqv z (.int a)) = decide (a ∈ l)
  | [] => rfl
  | b :: r => by
    rw [List.map_cons, List.any_cons, any_int a r]
    simp only [PyData.eqv, List.mem_cons, Bool.decide_or]
    congr 1
    rw [Bool.beq_eq_decide_eq]
    exact decide_eq_decide.mpr ⟨fun h => h.symm, fun h => h.symm⟩
theorem in_il (a : Int) (l : List Int) : inD (.int a) (il l) = some (decide (a ∈ l)) := by
  have h := shaped_il l
  unfold il at h ⊢
  show (if SeqAt.shaped (.int a) = true ∧ SeqAt.shaped (.tuple (l.map .int)) = true then some ((l.map PyData.int).any fun z => PyData.eqv z (.int a)) else none) = _
  rw [if_pos ⟨rfl, h⟩, any_int]
theorem in_ilL (a : Int) (l : List Int) : inD (.int a) (.list (l.map .int)) = some (decide (a ∈ l)) := by
  have h := shaped_ilL l
  show (if SeqAt.shaped (.int a) = true ∧ SeqAt.shaped (.list (l.map .int)) = true then some ((l.map PyData.int).any fun z => PyData.eqv z (.int a)) else none) = _
  rw [if_pos ⟨rfl, h⟩, any_int]
theorem eqvAll_ints : ∀ l m : List Int, PyData.eqvAll (l.map .int) (m.map .int) = decide (l = m)
  | [], [] => rfl
  | [], _ :: _ => by simp [PyData.eqvAll]
  | _ :: _, [] => by simp [PyData.eqvAll]
  | a :: l, b :: m => by
    simp only [List.map_cons, PyData.eqvAll, PyData.eqv, eqvAll_ints l m, Bool.beq_eq_decide_eq, List.cons.injEq, Bool.decide_and]
theorem eq_ilL (l m : List Int) : cmpA .Eq (.list (l.map .int)) (.list (m.map .int)) = some (decide (l = m)) := by
  show eqD (.list (l.map .int)) (.list (m.map .int)) = _
  simp only [eqD]
  rw [if_pos ⟨shaped_ilL l, shaped_ilL m⟩]
  simp only [PyData.eqv, eqvAll_ints]
theorem ne_ilL (l m : List Int) : cmpA .NotEq (.list (l.map .int)) (.list (m.map .int)) = some (!decide (l = m)) := by
  show (eqD (.list (l.map .int)) (.list (m.map .int))).map not = _
  have h : eqD (.list (l.map .int)) (.list (m.map .int)) = some (decide (l = m)) := eq_ilL l m
  rw [h]; rfl

/-! ### sorting -/
def srtBy {α : Type} (enc : α → PyData) (xs : List α) : List α := xs.mergeSort (PySem.W.dataLe false enc)
theorem srt_map {α : Type} (enc : α → PyData) (xs : List α) : srt (xs.map enc) = (srtBy enc xs).map enc := by
  unfold srt srtBy
  exact (List.map_mergeSort (r := PySem.W.dataLe false enc) (s := PySem.W.dataLe false id) (f := enc) fun a _ b _ => rfl).symm
theorem srtBy_perm {α : Type} (enc : α → PyData) (xs : List α) : (srtBy enc xs).Perm xs := List.mergeSort_perm _ _
theorem sortOk_of {α : Type} {enc : α → PyData} {xs : List α} (h1 : ∀ a ∈ xs, ∀ b ∈ xs, PySem.W.alike (enc a) (enc b) = true) (h2 : (∀ a ∈ xs, tupNe (enc a) = true) ∨ ∀ a ∈ xs, notTup (enc a) = true) (h3 : xs.length ≤ 16777216) (h4 : ∀ a ∈ xs, (enc a).depth ≤ 40 ∧ (enc a).hasDict = false) : sortOk (xs.map enc) = true := by
  simp only [sortOk, Bool.and_eq_true, List.all_eq_true, decide_eq_true_eq, Bool.not_eq_true', Bool.or_eq_true, List.length_map]
  refine ⟨⟨⟨?_, ?_⟩, h3⟩, ?_⟩
  · intro d hd e he
    obtain ⟨a, ha, rfl⟩ := List.mem_map.mp hd
    obtain ⟨b, hb, rfl⟩ := List.mem_map.mp he
    exact h1 a ha b hb
  · left
    rcases h2 with h | h
    · exact .inl fun d hd => by obtain ⟨a, ha, rfl⟩ := List.mem_map.mp hd; exact h a ha
    · exact .inr fun d hd => by obtain ⟨a, ha, rfl⟩ := List.mem_map.mp hd; exact h a ha
  · intro d hd
    obtain ⟨a, ha, rfl⟩ := List.mem_map.mp hd
    exact h4 a ha
theorem hasDict_ints : ∀ l : List Int, PyData.hasDictAll (l.map .int) = false
  | [] => rfl
  | _ :: r => by simp only [List.map_cons, PyData.hasDictAll, PyData.hasDict, Bool.false_or]; exact hasDict_ints r
theorem il_facts (l : List Int) : (il l).depth ≤ 40 ∧ (il l).hasDict = false := by
  unfold il
  simp only [PyData.depth, PyData.hasDict, PySem.W.depth_ints, hasDict_ints]
  exact ⟨by decide, trivial⟩
theorem sortOk_il {xs : List (List Int)} (h : ∀ l ∈ xs, l ≠ []) (hl : xs.length ≤ 16777216) : sortOk (xs.map il) = true := by
  refine sortOk_of (fun a _ b _ => ?_) (.inl fun a ha => ?_) hl fun a _ => il_facts a
  · unfold il; simp only [PySem.W.alike]; exact PySem.W.alike_ints a b
  · cases a with
    | nil => exact absurd rfl (h [] ha)
    | cons x r => rfl
theorem sortOk_lk {xs : List (Int × Int)} (hl : xs.length ≤ 16777216) : sortOk (xs.map lk) = true :=
  sortOk_of (fun a _ b _ => rfl) (.inl fun a _ => rfl) hl fun a _ => ⟨by simp [lk, PyData.depth, PyData.depthAll], rfl⟩
theorem sortOk_int {xs : List Int} (hl : xs.length ≤ 16777216) : sortOk (xs.map PyData.int) = true :=
  sortOk_of (fun a _ b _ => rfl) (.inr fun a _ => rfl) hl fun a _ => ⟨by simp [PyData.depth], rfl⟩

/-! ### slices -/
theorem slc_to {ds : List PyData} {k : Int} (h : 0 ≤ k) : slcD (.list ds) none (some k) = some (.list (ds.take k.toNat)) := by
  obtain ⟨j, rfl⟩ := Int.eq_ofNat_of_zero_le h
  simp [slcD, cutD, HT.sIx_none, HT.sIx_nat]
theorem slc_toT {ds : List PyData} {k : Int} (h : 0 ≤ k) : slcD (.tuple ds) none (some k) = some (.tuple (ds.take k.toNat)) := by
  obtain ⟨j, rfl⟩ := Int.eq_ofNat_of_zero_le h
  simp [slcD, cutD, HT.sIx_none, HT.sIx_nat]
theorem slc_fromT {ds : List PyData} {k : Int} (h : 0 ≤ k) : slcD (.tuple ds) (some k) none = some (.tuple (ds.drop k.toNat)) := by
  obtain ⟨j, rfl⟩ := Int.eq_ofNat_of_zero_le h
  simp only [slcD, cutD, HT.sIx_none, HT.sIx_nat, Int.toNat_natCast, Option.some.injEq, PyData.tuple.injEq]
  by_cases hj : j ≤ ds.length
  · rw [Nat.min_eq_left hj, List.take_of_length_le (by simp)]
  · rw [Nat.min_eq_right (by omega), List.drop_length, List.drop_eq_nil_of_le (by omega)]
    simp

/-! ### repr -/
def I40 (i : Int) : Prop := i.natAbs < 10 ^ 40
theorem I40.of {i : Int} (h : -1000000 ≤ i ∧ i ≤ 1000000) : I40 i := by unfold I40; omega
theorem sz_il {l : List Int} (h : ∀ i ∈ l, I40 i) : Sz (il l) (l.length * 43 + 3) 1 := by
  have := sz_tup (ds := l.map PyData.int) (n := 41) (k := 0) fun d hd => by
    obtain ⟨i, hi, rfl⟩ := List.mem_map.mp hd
    exact sz_int (h i hi)
  unfold il
  simpa using this
theorem sz_ilL {l : List Int} (h : ∀ i ∈ l, I40 i) : Sz (.list (l.map .int)) (l.length * 43 + 2) 1 := by
  have := sz_lst (ds := l.map PyData.int) (n := 41) (k := 0) fun d hd => by
    obtain ⟨i, hi, rfl⟩ := List.mem_map.mp hd
    exact sz_int (h i hi)
  simpa using this
theorem sz_lk {p : Int × Int} (h1 : I40 p.1) (h2 : I40 p.2) : Sz (lk p) 89 1 := by
  have := sz_il (l := [p.1, p.2]) (fun i hi => by simp at hi; rcases hi with rfl | rfl <;> assumption)
  exact this
theorem sz_lks {ls : List (Int × Int)} (h : ∀ p ∈ ls, I40 p.1 ∧ I40 p.2) : Sz (.tuple (ls.map lk)) (ls.length * 91 + 3) 2 := by
  have := sz_tup (ds := ls.map lk) (n := 89) (k := 1) fun d hd => by
    obtain ⟨p, hp, rfl⟩ := List.mem_map.mp hd
    exact sz_lk (h p hp).1 (h p hp).2
  simpa using this
theorem sz_net {n : Int} {ls : List (Int × Int)} (hn : I40 n) (h : ∀ p ∈ ls, I40 p.1 ∧ I40 p.2) : Sz (netD n ls) (2 * (ls.length * 91 + 46) + 3) 3 := by
  have := sz_tup (ds := [.int n, .tuple (ls.map lk)]) (n := ls.length * 91 + 44) (k := 2) fun d hd => by
    simp at hd
    rcases hd with rfl | rfl
    · exact (sz_int hn).mono (by omega) (by omega)
    · exact (sz_lks h).mono (by omega) (by omega)
  exact this
theorem perm_lift {α β : Type} (f : α → β) {m n : List β} (h : m.Perm n) : ∀ l : List α, l.map f = n → ∃ l' : List α, l'.Perm l ∧ l'.map f = m := L2.perm_lift f h
end Ev
end

section
set_option Elab.async false
set_option linter.all false
set_option maxRecDepth 100000
/-! Ev28: lots of stations. -/
namespace Ev
open PySem PySem.Spec PyProof.Rows L2

/-- found, each lot with and without each of the stations -/
def grow : List Int → List (List Int) → List (List Int)
  | [], found => found
  | one :: r, found => grow r (found ++ found.map (· ++ [one]))
theorem grow_len : ∀ (r : List Int) (found : List (List Int)), (grow r found).length = found.length * 2 ^ r.length
  | [], found => by simp [grow]
  | one :: r, found => by
    unfold grow
    rw [grow_len r]
    simp only [List.length_append, List.length_map, List.length_cons, Nat.pow_succ]
    rw [← Nat.mul_two, Nat.mul_assoc, Nat.mul_comm 2]
theorem il_snoc (l : List Int) (one : Int) : il (l ++ [one]) = .tuple (l.map .int ++ [.int one]) := by simp [il]
/-- elt: a lot (slot j) with one more (slot i) -/
def EltOk (S : SpecK) (elt : IE) (i j : Nat) : Prop := ∀ (env : List (Option EV)) (sto : List SObj) (l : List Int) (one : Int) (Q : Out → Stt → Prop), l.length ≤ 1000 → env[j]? = some (some ⟨false, .dat (il l)⟩) → env[i]? = some (some ⟨false, .dat (.int one)⟩) →
  Q ⟨.frz, .dat (il (l ++ [one]))⟩ ⟨env, sto⟩ → wpE S elt Q ⟨env, sto⟩
theorem elt_star {S : SpecK} {i j : Nat} : EltOk S (.tup (.star (.var j) (.cons (.var i) .nil))) i j := by
  intro env sto l one Q hl h1 h2 h
  simp only [wpE, wpX, wpA, both, h1, h2, Bool.false_eq_true, if_false]
  refine ⟨il l, l.map .int, rfl, rfl, trivial, l.map .int ++ [.int one], ?_, by simp [SL_eq]; omega, ?_⟩
  · have : ∀ (ds : List PyData), dats (ds.map (fun d => (⟨.frz, .dat d⟩ : Out)) ++ [⟨.frz, .dat (.int one)⟩]) = some (ds ++ [.int one]) := by
      intro ds
      induction ds with
      | nil => rfl
      | cons d ds ih => rw [List.map_cons, List.cons_append, dts_cons, ih]; rfl
    exact this _
  · have : ∀ (ds : List PyData) (st : Stt), frzA (ds.map (fun d => (⟨.frz, .dat d⟩ : Out)) ++ [⟨.frz, .dat (.int one)⟩]) st = st := by
      intro ds
      induction ds with
      | nil => intro st; rfl
      | cons d ds ih => intro st; rw [List.map_cons, List.cons_append, frzA_cons, frz_frz, ih]
    rw [this, ← il_snoc]
    exact h
theorem elt_add {S : SpecK} {i j : Nat} : EltOk S (.bin .Add (.var j) (.tup (.cons (.var i) .nil))) i j := by
  intro env sto l one Q hl h1 h2 h
  simp only [wpE, wpX, wpA, both, h1, h2, Bool.false_eq_true, if_false, okO_frz, dts_cons, dts_nil, Option.map_some, frzA_cons, frzA_nil, frz_frz]
  refine ⟨trivial, _, rfl, by simp [SL_eq], trivial, il l, _, il (l ++ [one]), rfl, rfl, ?_, h⟩
  rw [il_snoc]
  exact n_addT (by simp [SL_eq]; omega)
/-- the lots with a test -/
def lotsOf (st : List Int) : List (List Int) := srtBy il ((grow st [[]]).filter fun l => decide (0 < l.length) && decide (l.length < st.length))
theorem grow_short : ∀ (r : List Int) (found : List (List Int)) (n : Nat), (∀ l ∈ found, l.length ≤ n) → ∀ l ∈ grow r found, l.length ≤ n + r.length
  | [], found, n, h, l, hl => by simpa using h l hl
  | one :: r, found, n, h, l, hl => by
    unfold grow at hl
    have := grow_short r _ (n + 1) (fun x hx => by
      rcases List.mem_append.mp hx with hx | hx
      · exact Nat.le_succ_of_le (h x hx)
      · obtain ⟨y, hy, rfl⟩ := List.mem_map.mp hx
        simp; exact h y hy) l hl
    simp; omega
/-- for one in stations: found = found + [..] -/
theorem lots_loop {S : SpecK} {elt : IE} {E : EndsP} {sto : List SObj} {st : List Int} {a : Option EV} {ss : ISs} {src : II} (helt : EltOk S elt 2 3) (hsrc : ∀ (Q : List PyData → List Out → Stt → Prop) (b c : Option EV), (∀ os, (∀ s : Stt, frzA os s = s) → Q (st.map PyData.int) os ⟨[a, b, c, none], sto⟩) → wpI S src Q ⟨[a, b, c, none], sto⟩)
    (hl : st.length ≤ 10) (hE : ∀ c, wpSs S ss E ⟨[a, some ⟨true, .dat (.list ((grow st [[]]).map il))⟩, c, none], sto⟩) :
    wpSs S (.cons (.asg 1 (.lst (.cons (.tup .nil) .nil))) (.cons (.for_ (.nm 2) src (.cons (.asg 1 (.bin .Add (.var 1) (.comp elt (.nm 3) (.ex (.var 1)) .no [3]))) .nil)) ss)) E ⟨[a, none, none, none], sto⟩ := by
  refine step fun K hK => ?_
  simp [wpS, wpE, wpX, wpA, both, okO_frz, dts_cons, dts_nil, frzA_cons, frzA_nil, frz_frz, frz_fre, setO, SL_eq]
  subst hK
  refine step fun K hK => ?_
  simp only [wpS]
  refine hsrc _ _ _ fun os hos => ?_
  rw [hos]
  refine loop_inv (fun r s => ∃ found c, s = ⟨[a, some ⟨true, .dat (.list (found.map il))⟩, c, none], sto⟩ ∧ grow r found = grow st [[]] ∧ (∀ l ∈ found, l.length + r.length ≤ 10)) ?_ ?_ st _ ⟨[[]], none, rfl, rfl, fun l hl => by simp at hl; subst hl; simpa using ‹st.length ≤ 10›⟩
  · rintro one r s K' ⟨found, c, rfl, hg, hlen⟩ hK'
    have hfl : found.length * 2 ≤ 2048 := by
      have h1 := congrArg List.length hg
      rw [grow_len, grow_len] at h1
      have h2 : 2 ^ st.length ≤ 2 ^ 10 := Nat.pow_le_pow_right (by decide) hl
      have h3 : 1 ≤ 2 ^ r.length := Nat.one_le_two_pow
      simp only [List.length_cons, List.length_nil, Nat.pow_succ] at h1
      have h4 : found.length * 2 ≤ found.length * (2 ^ r.length * 2) := Nat.mul_le_mul_left _ (by omega)
      omega
    refine ⟨_, rfl, step fun K2 hK2 => ?_⟩
    simp only [wpS, wpE, wpX, wpI, both, List.getElem?_cons_zero, List.getElem?_cons_succ, if_true, List.set_cons_succ, List.set_cons_zero]
    refine ⟨_, rfl, ?_⟩
    simp only [wipeE, List.set_cons_succ, List.set_cons_zero]
    refine comp_map (fun l : List Int => il (l ++ [one])) (fun o ho => by simp at ho; subst ho; rfl) (by rw [SL_eq]; omega) (fun l hlm K3 hK3 => ?_) ?_
    · refine ⟨_, rfl, ?_⟩
      simp only [wpC]
      refine helt _ _ l one _ (by have := hlen l hlm; omega) rfl rfl ⟨_, rfl, ?_⟩
      simp only [frz_frz, List.set_cons_succ, List.set_cons_zero]
      exact hK3
    · simp only [backE, List.set_cons_succ, List.set_cons_zero]
      refine ⟨rfl, _, _, _, rfl, rfl, n_addL (by simp [SL_eq]; omega), ?_⟩
      simp only [outD_lst, frz_fre, setO, List.set_cons_succ, List.set_cons_zero]
      refine ⟨by simp, ?_⟩
      subst hK2
      refine last (hK' _ ⟨found ++ found.map (· ++ [one]), some ⟨false, .dat (.int one)⟩, ?_, ?_, ?_⟩)
      · simp [List.map_map, Function.comp_def]
      · exact hg
      · intro l hl
        rcases List.mem_append.mp hl with hl | hl
        · have := hlen l hl; simp at this; omega
        · obtain ⟨y, hy, rfl⟩ := List.mem_map.mp hl
          have := hlen y hy
          simp at this ⊢; omega
  · rintro s ⟨found, c, rfl, hg, _⟩
    subst hK
    rw [show found = grow st [[]] from hg]
    exact hE c
end Ev
end

section
set_option Elab.async false
set_option linter.all false
set_option maxRecDepth 100000
/-! Ev29s: the rules, for simp. -/
namespace Ev
open PySem PySem.Spec PyProof.Rows L2
@[simp] theorem u_wpX_1 {S : SpecK}  : wpX S (.non) = (both fun Q st => Q ⟨.frz, .dat .none⟩ st) := by simp only [wpX]
@[simp] theorem u_wpX_2 {S : SpecK} {b} : wpX S (.bl b) = (both fun Q st => Q ⟨.frz, .dat (.bool b)⟩ st) := by simp only [wpX]
@[simp] theorem u_wpX_3 {S : SpecK} {i} : wpX S (.int i) = (both fun Q st => Q ⟨.frz, .dat (.int i)⟩ st) := by simp only [wpX]
@[simp] theorem u_wpX_4 {S : SpecK} {x} : wpX S (.str x) = (both fun Q st => Q ⟨.frz, .dat (.str x)⟩ st) := by simp only [wpX]
@[simp] theorem u_wpX_5 {S : SpecK} {op} {a} {b} : wpX S (.bin op a b) = (both fun Q st => (wpX S a).1 (fun o1 st1 => (wpX S b).1 (fun o2 st2 => okO o1 st2 ∧ ∃ d1 d2 r, view st2.sto o1.val = some d1 ∧ view st2.sto o2.val = some d2 ∧ binD op d1 d2 = some r ∧ Q (outD r) st2) st1) st) := by simp only [wpX]
@[simp] theorem u_wpX_6 {S : SpecK} {a} : wpX S (.neg a) = (both fun Q st => (wpX S a).1 (fun o st1 => ∃ i, o.val = .dat (.int i) ∧ Q ⟨.frz, .dat (.int (-i))⟩ st1) st) := by simp only [wpX]
@[simp] theorem u_wpX_7 {S : SpecK} {a} : wpX S (.nt a) = ((fun Q st => (wpX S a).2 (fun b st1 => Q ⟨.frz, .dat (.bool (!b))⟩ st1) st, fun Q st => (wpX S a).2 (fun b st1 => Q (!b) st1) st)) := by simp only [wpX]
@[simp] theorem u_wpX_8 {S : SpecK} {c} {es} : wpX S (.bop c es) = ((fun Q st => wpB S c es (fun b st1 => Q ⟨.frz, .dat (.bool b)⟩ st1) st, fun Q st => wpB S c es Q st)) := by simp only [wpX]
@[simp] theorem u_wpX_9 {S : SpecK} {c} {a} {b} : wpX S (.ife c a b) = (both fun Q st => (wpX S c).2 (fun t st1 => if t then (wpX S a).1 Q st1 else (wpX S b).1 Q st1) st) := by simp only [wpX]
@[simp] theorem u_wpX_10 {S : SpecK} {es} : wpX S (.tup es) = (both fun Q st => wpA S es (fun os st1 => ∃ ds, dats os = some ds ∧ ds.length ≤ SL ∧ Q ⟨.frz, .dat (.tuple ds)⟩ (frzA os st1)) st) := by simp only [wpX]
@[simp] theorem u_wpX_11 {S : SpecK} {es} : wpX S (.lst es) = (both fun Q st => wpA S es (fun os st1 => ∃ ds, dats os = some ds ∧ ds.length ≤ SL ∧ Q ⟨.fre, .dat (.list ds)⟩ (frzA os st1)) st) := by simp only [wpX]
@[simp] theorem u_wpX_12 {S : SpecK} {op} {a} {b} : wpX S (.cmp op a b) = (both fun Q st => (wpX S a).1 (fun o1 st1 => (wpX S b).1 (fun o2 st2 => okO o1 st2 ∧ ∃ d1 d2 r, view st2.sto o1.val = some d1 ∧ view st2.sto o2.val = some d2 ∧ cmpA op d1 d2 = some r ∧ Q ⟨.frz, .dat (.bool r)⟩ st2) st1) st) := by simp only [wpX]
@[simp] theorem u_wpX_13 {S : SpecK} {op} {op'} {a} {b} {c} : wpX S (.chain op op' a b c) = (both fun Q st => (wpX S a).1 (fun o1 st1 => (wpX S b).1 (fun o2 st2 => okO o1 st2 ∧ ∃ d1 d2 r, view st2.sto o1.val = some d1 ∧ view st2.sto o2.val = some d2 ∧ cmpA op d1 d2 = some r ∧
      if r then (wpX S c).1 (fun o3 st3 => okO o2 st3 ∧ ∃ d2' d3 r', view st3.sto o2.val = some d2' ∧ view st3.sto o3.val = some d3 ∧ cmpA op' d2' d3 = some r' ∧ Q ⟨.frz, .dat (.bool r')⟩ st3) st2
      else Q ⟨.frz, .dat (.bool false)⟩ st2) st1) st) := by simp only [wpX]
@[simp] theorem u_wpX_14K {S : SpecK} {f} {es} : wpX S (.callK f es) = (both fun Q st => wpA S es (fun os st1 => S f (os.map (·.val)) st1.sto (fun r sto' => keepE r = true ∧
      Q ⟨if r.own then .fre else .frz, r.val⟩ { st1 with sto := sto' })) st) := by simp only [wpX]
@[simp] theorem u_wpX_14 {S : SpecK} {f} {es} : wpX S (.call f es) = (both fun Q st => wpA S es (fun os st1 => S f (os.map (·.val)) st1.sto (fun r sto' =>
      Q ⟨if r.own then .fre else .frz, r.val⟩ (if scalarV r.val then { st1 with sto := sto' } else { frzA os st1 with sto := sto' }))) st) := by simp only [wpX]
@[simp] theorem u_wpX_15 {S : SpecK} {f} {es} : wpX S (.bcl f es) = (both fun Q st => wpA S es (fun os st1 => ∃ ds r, views st1.sto os = some ds ∧ bD f ds = some r ∧ Q (outD r) st1) st) := by simp only [wpX]
@[simp] theorem u_wpX_16 {S : SpecK} {m} {o} {es} : wpX S (.mth m o es) = (both fun Q st => (wpX S o).1 (fun oo st1 => wpA S es (fun os st2 => okO oo st2 ∧ ∃ d ds r, view st2.sto oo.val = some d ∧ views st2.sto os = some ds ∧ mD m d ds = some r ∧ Q (outD r) st2) st1) st) := by simp only [wpX]
@[simp] theorem u_wpX_17 {S : SpecK} {o} {e} : wpX S (.app o e) = (both fun Q st => (wpX S o).1 (fun oo st1 => (lstOf oo st1).isSome = true ∧ (wpX S e).1 (fun ov st2 => ∃ st3, appS oo ov st2 = some st3 ∧ Q ⟨.frz, .dat .none⟩ st3) st1) st) := by simp only [wpX]
@[simp] theorem u_updX {S : SpecK} {o} {e} : wpX S (.upd o e) = (both fun Q st => (wpX S o).1 (fun oo st1 => ownDct oo st1 = true ∧ (wpX S e).1 (fun ov st2 => ∃ st3, updS oo ov st2 = some st3 ∧ Q ⟨.frz, .dat .none⟩ st3) st1) st) := by simp only [wpX]
@[simp] theorem u_wpX_17X {S : SpecK} {o} {e} : wpX S (.ext o e) = (both fun Q st => (wpX S o).1 (fun oo st1 => (lstOf oo st1).isSome = true ∧ (wpX S e).1 (fun ov st2 => ∃ st3, extS oo ov st2 = some st3 ∧ Q ⟨.frz, .dat .none⟩ st3) st1) st) := by simp only [wpX]
@[simp] theorem u_wpX_17R {S : SpecK} {o} {e} : wpX S (.rmd o e) = (both fun Q st => (wpX S o).1 (fun oo st1 => (lstOf oo st1).isSome = true ∧ (wpX S e).1 (fun ov st2 => ∃ st3, rmdS oo ov st2 = some st3 ∧ Q ⟨.frz, .dat .none⟩ st3) st1) st) := by simp only [wpX]
@[simp] theorem u_wpX_17F {S : SpecK} {o} {e} : wpX S (.fnd o e) = (both fun Q st => (wpX S o).1 (fun oo st1 => (∃ ds0, view st1.sto oo.val = some (.list ds0)) ∧ (wpX S e).1 (fun ov st2 => okO oo st2 ∧ ∃ ds d j, view st2.sto oo.val = some (.list ds) ∧ view st2.sto ov.val = some d ∧ SeqAt.shaped (.list ds) = true ∧ SeqAt.shaped d = true ∧ findD d ds 0 = some j ∧ Q ⟨.frz, .dat (.int (j : Int))⟩ st2) st1) st) := by simp only [wpX]
@[simp] theorem u_wpX_17C {S : SpecK} {o} {e} : wpX S (.ctd o e) = (both fun Q st => (wpX S o).1 (fun oo st1 => (∃ ds0, view st1.sto oo.val = some (.list ds0)) ∧ (wpX S e).1 (fun ov st2 => okO oo st2 ∧ ∃ ds d, view st2.sto oo.val = some (.list ds) ∧ view st2.sto ov.val = some d ∧ SeqAt.shaped (.list ds) = true ∧ SeqAt.shaped d = true ∧ Q ⟨.frz, .dat (.int (countD d ds : Int))⟩ st2) st1) st) := by simp only [wpX]
@[simp] theorem u_wpX_18 {S : SpecK} {o} {es} : wpX S (.pop o es) = (both fun Q st => (wpX S o).1 (fun oo st1 => (lstOf oo st1).isSome = true ∧ wpA S es (fun os st2 => ∃ d st3, popS oo (os.map (·.val)) st2 = some (d, st3) ∧ Q ⟨.frz, .dat d⟩ st3) st1) st) := by simp only [wpX]
@[simp] theorem u_wpX_19 {S : SpecK} {o} {e} : wpX S (.rmv o e) = (both fun Q st => (wpX S o).1 (fun oo st1 => (lstOf oo st1).isSome = true ∧ (wpX S e).1 (fun ov st2 => ∃ n st3, ov.val = .dat (.int n) ∧ rmvS oo n st2 = some st3 ∧ Q ⟨.frz, .dat .none⟩ st3) st1) st) := by simp only [wpX]
@[simp] theorem u_wpX_20 {S : SpecK} {o} {i} : wpX S (.idx o i) = (both fun Q st => (wpX S o).1 (fun oo st1 => (wpX S i).1 (fun oi st2 => okO oo st2 ∧ ∃ r, getS st2.sto oo.val oi.val = some r ∧ Q r st2) st1) st) := by simp only [wpX]
@[simp] theorem u_wpX_21 {S : SpecK} {o} {lo} {hi} : wpX S (.slc o lo hi) = (both fun Q st => (wpX S o).1 (fun oo st1 => wpO S lo (fun l st2 => wpO S hi (fun h st3 => okO oo st3 ∧ ∃ d r, view st3.sto oo.val = some d ∧ slcD d l h = some r ∧ Q (outD r) st3) st2) st1) st) := by simp only [wpX]
@[simp] theorem u_wpX_22 {S : SpecK} {o} : wpX S (.rev o) = (both fun Q st => (wpX S o).1 (fun oo st1 => ∃ d r, view st1.sto oo.val = some d ∧ revD d = some r ∧ Q (outD r) st1) st) := by simp only [wpX]
@[simp] theorem u_wpX_23 {S : SpecK} {t} : wpX S (.dnew t) = (both fun Q st => Q ⟨.fre, .dat (.dict [])⟩ st) := by simp only [wpX]
@[simp] theorem u_wpX_24 {S : SpecK} {fs} : wpX S (.rcd fs) = (both fun Q st => wpR S fs (fun vs st1 => Q ⟨.frz, .ref (st1.sto.length)⟩ { st1 with sto := st1.sto ++ [.rcd vs] }) st) := by simp only [wpX]
@[simp] theorem u_wpX_25 {S : SpecK} {e} {t} : wpX S (.isi e t) = (both fun Q st => (wpX S e).1 (fun o st1 => ∃ d, view st1.sto o.val = some d ∧ Q ⟨.frz, .dat (.bool (isiD d t))⟩ st1) st) := by simp only [wpX]
@[simp] theorem u_wpX_26 {S : SpecK} {neg} {e} : wpX S (.isN neg e) = (both fun Q st => (wpX S e).1 (fun o st1 => ∃ d, o.val = .dat d ∧ Q ⟨.frz, .dat (.bool (if neg then !nonD d else nonD d))⟩ st1) st) := by simp only [wpX]
@[simp] theorem u_wpA_27 {S : SpecK} {Q} {st} : wpA S (.nil) Q st = (Q [] st) := by simp only [wpA]
@[simp] theorem u_wpA_28 {S : SpecK} {e} {es} {Q} {st} : wpA S (.cons e es) Q st = ((wpX S e).1 (fun o st1 => wpA S es (fun os st2 => okO o st2 ∧ Q (o :: os) st2) st1) st) := by simp only [wpA]
@[simp] theorem u_wpA_29 {S : SpecK} {e} {es} {Q} {st} : wpA S (.star e es) Q st = ((wpX S e).1 (fun o st1 => ∃ d ds, view st1.sto o.val = some d ∧ seqD d = some ds ∧ wpA S es (fun os st2 => Q (ds.map (fun d => ⟨.frz, .dat d⟩) ++ os) st2) st1) st) := by simp only [wpA]
@[simp] theorem u_wpB_30 {S : SpecK} {c} {Q} {st} : wpB S c (.nil) Q st = (Q c st) := by simp only [wpB]
@[simp] theorem u_wpB_31 {S : SpecK} {c} {e} {es} {Q} {st} : wpB S c (.cons e es) Q st = ((wpX S e).2 (fun b st1 => if b = c then wpB S c es Q st1 else Q (!c) st1) st) := by simp only [wpB]
@[simp] theorem u_wpB_32 {S : SpecK} {u0} {u1} {u2} {u3} {u4} : wpB S u0 (.star u1 u2) u3 u4 = (False) := by simp only [wpB]
@[simp] theorem u_wpC_33 {S : SpecK} {Q} {st} : wpC S (.no) Q st = (Q true st) := by simp only [wpC]
@[simp] theorem u_wpC_34 {S : SpecK} {e} {Q} {st} : wpC S (.so e) Q st = ((wpX S e).2 Q st) := by simp only [wpC]
@[simp] theorem u_wpO_35 {S : SpecK} {Q} {st} : wpO S (.no) Q st = (Q none st) := by simp only [wpO]
@[simp] theorem u_wpO_36 {S : SpecK} {e} {Q} {st} : wpO S (.so e) Q st = ((wpX S e).1 (fun o st1 => ∃ i, o.val = .dat (.int i) ∧ Q (some i) st1) st) := by simp only [wpO]
@[simp] theorem u_wpI_37 {S : SpecK} {e} {Q} {st} : wpI S (.ex e) Q st = ((wpX S e).1 (fun o st1 => ∃ ds, iterV o.val = some ds ∧ Q ds [o] st1) st) := by simp only [wpI]
@[simp] theorem u_wpI_38 {S : SpecK} {a} {Q} {st} : wpI S (.rg1 a) Q st = ((wpX S a).1 (fun o st1 => ∃ i, o.val = .dat (.int i) ∧ bigI i ∧ Q (rngD 0 i.toNat) [] st1) st) := by simp only [wpI]
@[simp] theorem u_wpI_39 {S : SpecK} {a} {b} {Q} {st} : wpI S (.rg2 a b) Q st = ((wpX S a).1 (fun o st1 => (wpX S b).1 (fun o' st2 => ∃ i j, o.val = .dat (.int i) ∧ o'.val = .dat (.int j) ∧ bigI i ∧ bigI j ∧ Q (rngD i (j - i).toNat) [] st2) st1) st) := by simp only [wpI]
@[simp] theorem u_wpI_39S {S : SpecK} {a} {b} {c} {Q} {st} : wpI S (.rg3 a b c) Q st = ((wpX S a).1 (fun o st1 => (wpX S b).1 (fun o' st2 => (wpX S c).1 (fun o'' st3 => ∃ i j, o.val = .dat (.int i) ∧ o'.val = .dat (.int j) ∧ o''.val = .dat (.int 2) ∧ bigI i ∧ bigI j ∧ Q (rngS i ((j - i + 1) / 2).toNat) [] st3) st2) st1) st) := by simp only [wpI]
@[simp] theorem u_wpI_40 {S : SpecK} {e} {Q} {st} : wpI S (.enm e) Q st = ((wpX S e).1 (fun o st1 => ∃ ds, iterV o.val = some ds ∧ Q (enumFrom 0 ds) [o] st1) st) := by simp only [wpI]
@[simp] theorem u_wpI_41 {S : SpecK} {a} {b} {Q} {st} : wpI S (.zip a b) Q st = ((wpX S a).1 (fun o st1 => (wpX S b).1 (fun o' st2 => okO o st2 ∧ ∃ ds es, iterV o.val = some ds ∧ iterV o'.val = some es ∧ isTupV o.val = isTupV o'.val ∧ Q (zipD ds es) [o, o'] st2) st1) st) := by simp only [wpI]
@[simp] theorem u_wpI_42 {S : SpecK} {a} {b} {Q} {st} : wpI S (.zps a b) Q st = ((wpX S a).1 (fun o st1 => (wpX S b).1 (fun o' st2 => okO o st2 ∧ ∃ ds es, iterV o.val = some ds ∧ iterV o'.val = some es ∧ ds.length = es.length ∧ Q (zipD ds es) [o, o'] st2) st1) st) := by simp only [wpI]
@[simp] theorem u_wpR_43 {S : SpecK} {Q} {st} : wpR S (.nil) Q st = (Q [] st) := by simp only [wpR]
@[simp] theorem u_wpR_44 {S : SpecK} {x} {e} {fs} {Q} {st} : wpR S (.cons x e fs) Q st = ((wpX S e).1 (fun o st1 => (∃ i, o.val = .dat (.int i) ∧ wpR S fs (fun vs st2 => Q ((x, .int i) :: vs) st2) st1) ∨
      (∃ ns, o = ⟨.fre, .dat (.list (ns.map PyData.int))⟩ ∧ wpR S fs (fun vs st2 => Q ((x, .ref st1.sto.length) :: vs) st2) { st1 with sto := st1.sto ++ [.lst ns] })) st) := by simp only [wpR]
@[simp] theorem u_wpS_45 {S : SpecK} {i} {e} {E} {st} : wpS S (.asg i e) E st = (wpE S e (fun o st1 => i < st1.env.length ∧ E.nx (setO i o st1)) st) := by simp only [wpS]
@[simp] theorem u_wpS_46 {S : SpecK} {is} {es} {E} {st} : wpS S (.par is es) E st = (wpA S es (fun os st1 => os.length = is.length ∧ (∀ i ∈ is, i < st1.env.length) ∧ E.nx { frzSlots os st1 with env := setPar is os (frzSlots os st1).env }) st) := by simp only [wpS]
@[simp] theorem u_wpS_47 {S : SpecK} {tg} {e} {E} {st} : wpS S (.unp tg e) E st = (wpE S e (fun o st1 => ∃ d env', o.val = .dat d ∧ bindT tg d (frz o st1).env = some env' ∧ E.nx { frz o st1 with env := env' }) st) := by simp only [wpS]
@[simp] theorem u_wpS_48 {S : SpecK} {o} {k} {e} {E} {st} : wpS S (.put o k e) E st = (wpE S e (fun ov st1 => wpE S o (fun oo st2 => wpE S k (fun ok st3 => okO ov st3 ∧ okO oo st3 ∧ ∃ st4, putS oo ok ov st3 = some st4 ∧ E.nx st4) st2) st1) st) := by simp only [wpS]
@[simp] theorem u_wpS_49 {S : SpecK} {e} {E} {st} : wpS S (.exp e) E st = (wpE S e (fun _ st1 => E.nx st1) st) := by simp only [wpS]
@[simp] theorem u_wpS_50 {S : SpecK} {e} {E} {st} : wpS S (.ret e) E st = (wpE S e E.rt st) := by simp only [wpS]
@[simp] theorem u_wpS_51 {S : SpecK} {E} {st} : wpS S (.retN) E st = (E.rt ⟨.frz, .dat .none⟩ st) := by simp only [wpS]
@[simp] theorem u_wpS_52 {S : SpecK} {c} {t} {e} {E} {st} : wpS S (.ife c t e) E st = (wpT S c (fun b st1 => if b then wpSs S t E st1 else wpSs S e E st1) st) := by simp only [wpS]
@[simp] theorem u_wpS_53 {S : SpecK} {c} {b} {E} {st} : wpS S (.whl c b) E st = (∃ W : Nat → Stt → Prop, (∃ m, W m st) ∧ ∀ m st', W m st' → wpT S c (fun t st1 => if t then wpSs S b { E with nx := fun s => ∃ m', m' < m ∧ W m' s, ct := fun s => ∃ m', m' < m ∧ W m' s, bk := E.nx } st1 else E.nx st1) st') := by simp only [wpS]
@[simp] theorem u_wpS_54 {S : SpecK} {E} {st} : wpS S (.brk) E st = (E.bk st) := by simp only [wpS]
@[simp] theorem u_wpS_55 {S : SpecK} {E} {st} : wpS S (.cnt) E st = (E.ct st) := by simp only [wpS]
@[simp] theorem u_wpS_56 {S : SpecK} {E} {st} : wpS S (.pas) E st = (E.nx st) := by simp only [wpS]
@[simp] theorem u_wpS_57 {S : SpecK} {u0} {u1} : wpS S (.rais) u0 u1 = (False) := by simp only [wpS]
@[simp] theorem u_wpSs_58 {S : SpecK} {E} {st} : wpSs S (.nil) E st = (E.nx st) := by simp only [wpSs]
def varQ (i : Nat) (Q : Out → Stt → Prop) (st : Stt) : Option (Option EV) → Prop
  | some (some ev) => Q ⟨if ev.own then .slot i else .frz, ev.val⟩ st
  | _ => False
@[simp] theorem u_var0 {i : Nat} {Q : Out → Stt → Prop} {st : Stt} {v : Val} : varQ i Q st (some (some ⟨false, v⟩)) = Q ⟨.frz, v⟩ st := rfl
@[simp] theorem u_var1 {i : Nat} {Q : Out → Stt → Prop} {st : Stt} {v : Val} : varQ i Q st (some (some ⟨true, v⟩)) = Q ⟨.slot i, v⟩ st := rfl
@[simp] theorem u_var2 {S : SpecK} {i : Nat} : wpX S (.var i) = both fun Q st => varQ i Q st st.env[i]? := by
  simp only [wpX]
  refine congrArg both (funext fun Q => funext fun st => ?_)
  cases h : st.env[i]? with
  | none => rfl
  | some x => cases x <;> rfl
@[simp] theorem u_lrg {S : SpecK} {t : Bool} {a : IE} : wpX S (.lrg t (.rg1 a)) = both fun Q st => (wpX S a).1 (fun o st1 => ∃ i, o.val = .dat (.int i) ∧ (-1 ≤ i ∧ i < 16777216) ∧ Q (outD (if t then .tuple (rngD 0 i.toNat) else .list (rngD 0 i.toNat))) st1) st := by simp only [wpX]
@[simp] theorem u_lrg2 {S : SpecK} {t : Bool} {a b : IE} : wpX S (.lrg t (.rg2 a b)) = both fun Q st => (wpX S a).1 (fun o1 st1 => (wpX S b).1 (fun o2 st2 => ∃ i j, o1.val = .dat (.int i) ∧ o2.val = .dat (.int j) ∧ (-1 ≤ i ∧ i < 16777216) ∧ (-1 ≤ j ∧ j < 16777216) ∧ Q (outD (if t then .tuple (rngD i (j - i).toNat) else .list (rngD i (j - i).toNat))) st2) st1) st := by simp only [wpX]
@[simp] theorem u_del {S : SpecK} {o k : IE} {E : EndsP} {st : Stt} : wpS S (.del o k) E st = wpE S o (fun oo st1 => wpE S k (fun ok st2 => okO oo st2 ∧ ∃ n st3, ok.val = .dat (.int n) ∧ delS oo n st2 = some st3 ∧ E.nx st3) st1) st := by simp only [wpS]
/-- a loop's turn; a comprehension's turn -/
def forQ (S : SpecK) (tg : Tg) (b : ISs) (E : EndsP) : PyData → (Stt → Prop) → Stt → Prop := fun d K st2 => ∃ env', bindT tg d st2.env = some env' ∧ wpSs S b { E with nx := K, ct := K, bk := E.nx } { st2 with env := env' }
@[simp] theorem u_for {S : SpecK} {tg : Tg} {it : II} {b : ISs} {E : EndsP} {st : Stt} : wpS S (.for_ tg it b) E st = wpI S it (fun ds os st1 => wpLoop (forQ S tg b E) E.nx ds (frzA os st1)) st := by
  simp only [wpS]
  rfl
def compQ (S : SpecK) (elt : IE) (tg : Tg) (cond : IO) (own : List Nat) : PyData → (Option PyData → Stt → Prop) → Stt → Prop := fun d K st2 => ∃ env', bindT tg d (wipeE own st2.env) = some env' ∧
  wpC S cond (fun b st3 => if b then (wpX S elt).1 (fun o st4 => ∃ v, o.val = .dat v ∧ K (some v) { frz o st4 with env := wipeE own (frz o st4).env }) st3 else K none { st3 with env := wipeE own st3.env }) { st2 with env := env' }
@[simp] theorem u_comp {S : SpecK} {elt : IE} {tg : Tg} {it : II} {cond : IO} {own : List Nat} : wpX S (.comp elt tg it cond own) = both fun Q st => wpI S it (fun ds os st1 => wpComp (okAs os) (compQ S elt tg cond own) (fun acc st5 => Q ⟨.fre, .dat (.list acc)⟩ { st5 with env := backE own st1.env st5.env }) ds [] { st1 with env := wipeE own st1.env }) st := by
  simp only [wpX]
  rfl
@[simp] theorem u_lset {S : SpecK} {e} : wpX S (.lset e) = (both fun Q st => (wpX S e).1 (fun o st1 => ∃ ns : List Int, view st1.sto o.val = some (.list (ns.map PyData.int)) ∧ ns.length ≤ 4000 ∧ Q ⟨.frz, .dat (.int (ddI ns : Nat))⟩ st1) st) := by simp only [wpX]
@[simp] theorem u_dct1 {S : SpecK} {k v} : wpX S (.dct1 k v) = (both fun Q st => (wpX S k).1 (fun ok st1 => ∃ n, ok.val = .dat (.int n) ∧ (wpX S v).1 (fun o st2 => ∃ d, o.val = .dat d ∧ Q ⟨.fre, .dat (.dict [(.int n, d)])⟩ (frz o st2)) st1) st) := by simp only [wpX]
def dcpQ (S : SpecK) (kx vx : IE) (tg : Tg) (cond : IO) (own : List Nat) : PyData → List (PyData × PyData) → (List (PyData × PyData) → Stt → Prop) → Stt → Prop := fun d acc K st2 => ∃ env', bindT tg d (wipeE own st2.env) = some env' ∧
  wpC S cond (fun b st3 => if b then (wpX S kx).1 (fun ok st4 => ∃ n, ok.val = .dat (.int n) ∧ acc.length < SL ∧ (wpX S vx).1 (fun o st5 => ∃ v, o.val = .dat v ∧ K (putD (.int n) v acc) { frz o st5 with env := wipeE own (frz o st5).env }) st4) st3 else K acc { st3 with env := wipeE own st3.env }) { st2 with env := env' }
def scoQ (S : SpecK) (elt : IE) (tg : Tg) (cond : IO) (own : List Nat) : PyData → List Int → (List Int → Stt → Prop) → Stt → Prop := fun d acc K st2 => ∃ env', bindT tg d (wipeE own st2.env) = some env' ∧
  wpC S cond (fun t st3 => if t then (wpX S elt).1 (fun o st4 => ∃ n, o.val = .dat (.int n) ∧ acc.length < 4000 ∧ K (acc ++ [n]) { st4 with env := wipeE own st4.env }) st3 else K acc { st3 with env := wipeE own st3.env }) { st2 with env := env' }
@[simp] theorem u_sco {S : SpecK} {b : Bool} {elt : IE} {tg : Tg} {it : II} {cond : IO} {own : List Nat} : wpX S (.sco b elt tg it cond own) = both fun Q st => wpI S it (fun ds os st1 => wpFold (okAs os) (scoQ S elt tg cond own) (fun acc st5 => ∃ o, setI b acc = some o ∧ Q o { st5 with env := backE own st1.env st5.env }) ds [] { st1 with env := wipeE own st1.env }) st := by
  simp only [wpX]
  rfl
@[simp] theorem u_dcp {S : SpecK} {kx vx : IE} {tg : Tg} {it : II} {cond : IO} {own : List Nat} : wpX S (.dcp kx vx tg it cond own) = both fun Q st => wpI S it (fun ds os st1 => wpFold (okAs os) (dcpQ S kx vx tg cond own) (fun acc st5 => Q ⟨.fre, .dat (.dict acc)⟩ { st5 with env := backE own st1.env st5.env }) ds [] { st1 with env := wipeE own st1.env }) st := by
  simp only [wpX]
  rfl
theorem fold_inv {A α : Type} {enc : α → PyData} {chk : Stt → Prop} {step : PyData → A → (A → Stt → Prop) → Stt → Prop} {done : A → Stt → Prop} (I : List α → A → Stt → Prop) (hc : ∀ r acc st, I r acc st → chk st)
    (hs : ∀ x r acc st K, I (x :: r) acc st → (∀ acc' st', I r acc' st' → K acc' st') → step (enc x) acc K st) (hd : ∀ acc st, I [] acc st → done acc st) : ∀ (xs : List α) (acc : A) (st : Stt), I xs acc st → wpFold chk step done (xs.map enc) acc st
  | [], acc, st, h => ⟨hc _ _ _ h, hd acc st h⟩
  | x :: r, acc, st, h => ⟨hc _ _ _ h, hs x r acc st _ h fun acc' st' h' => fold_inv I hc hs hd r acc' st' h'⟩
/-- .. of two clauses -/
def comp2In (S : SpecK) (elt : IE) (tg1 : Tg) (cond1 : IO) (own1 : List Nat) : PyData → (Option PyData → Stt → Prop) → Stt → Prop := compQ S elt tg1 cond1 own1
def comp2Q (S : SpecK) (elt : IE) (tg : Tg) (cond : IO) (tg1 : Tg) (it1 : II) (cond1 : IO) (own own1 : List Nat) : PyData → List PyData → (List PyData → Stt → Prop) → Stt → Prop := fun d acc K st2 => ∃ env', bindT tg d (wipeE own st2.env) = some env' ∧
  wpC S cond (fun b st3 => if b then wpI S it1 (fun ds1 os1 st4 => wpComp (okAs os1) (compQ S elt tg1 cond1 own1) (fun acc' st8 => K acc' { st8 with env := wipeE own st8.env }) ds1 acc { st4 with env := wipeE own1 st4.env }) st3 else K acc { st3 with env := wipeE own st3.env }) { st2 with env := env' }
@[simp] theorem u_comp2 {S : SpecK} {elt : IE} {tg tg1 : Tg} {it it1 : II} {cond cond1 : IO} {own own1 : List Nat} : wpX S (.comp2 elt tg it cond tg1 it1 cond1 own own1) = both fun Q st => wpI S it (fun ds os st1 => wpCompL (okAs os) (comp2Q S elt tg cond tg1 it1 cond1 own own1) (fun acc st5 => Q ⟨.fre, .dat (.list acc)⟩ { st5 with env := backE own st1.env st5.env }) ds [] { st1 with env := wipeE own st1.env }) st := by
  simp only [wpX]
  rfl
@[simp] theorem u_aug {S : SpecK} {i} {e} {E} {st} : wpS S (.aug i e) E st = ((∃ v, st.env[i]? = some (some ⟨false, .dat v⟩)) ∧ wpE S e (fun o st1 => ∃ a b, st1.env[i]? = some (some ⟨false, .dat (.int a)⟩) ∧ o.val = .dat (.int b) ∧ E.nx { st1 with env := st1.env.set i (some ⟨false, .dat (.int (a + b))⟩) }) st) := by simp only [wpS]
theorem compL_inv {α : Type} {enc : α → PyData} {chk : Stt → Prop} {step : PyData → List PyData → (List PyData → Stt → Prop) → Stt → Prop} {done : List PyData → Stt → Prop} (I : List α → List PyData → Stt → Prop) (hc : ∀ r acc st, I r acc st → chk st)
    (hs : ∀ x r acc st K, I (x :: r) acc st → (∀ acc' st', I r acc' st' → K acc' st') → step (enc x) acc K st) (hd : ∀ acc st, I [] acc st → done acc st) : ∀ (xs : List α) (acc : List PyData) (st : Stt), I xs acc st → wpCompL chk step done (xs.map enc) acc st
  | [], acc, st, h => ⟨hc _ _ _ h, hd acc st h⟩
  | x :: r, acc, st, h => ⟨hc _ _ _ h, hs x r acc st _ h fun acc' st' h' => compL_inv I hc hs hd r acc' st' h'⟩
@[simp] theorem u_both1 {v : PreE} : (both v).1 = v := rfl
@[simp] theorem u_both2 {v : PreE} {Q : Bool → Stt → Prop} {st : Stt} : (both v).2 Q st = v (fun o st1 => ∃ b, o.val = .dat (.bool b) ∧ Q b st1) st := rfl
@[simp] theorem u_wpE {S : SpecK} {e : IE} : wpE S e = (wpX S e).1 := rfl
@[simp] theorem u_wpT {S : SpecK} {e : IE} : wpT S e = (wpX S e).2 := rfl
@[simp] theorem v_okO_frz {v : Val} {st : Stt} : okO ⟨.frz, v⟩ st = True := okO_frz
@[simp] theorem v_okO_fre {v : Val} {st : Stt} : okO ⟨.fre, v⟩ st = True := okO_fre
@[simp] theorem v_okO_slot {i : Nat} {v : Val} {st : Stt} : okO ⟨.slot i, v⟩ st = (st.env[i]? = some (some ⟨true, v⟩)) := okO_slot
@[simp] theorem v_frz_frz {v : Val} {st : Stt} : frz ⟨.frz, v⟩ st = st := frz_frz
@[simp] theorem v_frz_fre {v : Val} {st : Stt} : frz ⟨.fre, v⟩ st = st := frz_fre
@[simp] theorem v_frz_slot {i : Nat} {v : Val} {st : Stt} : frz ⟨.slot i, v⟩ st = { st with env := st.env.set i (some ⟨false, v⟩) } := frz_slot
@[simp] theorem v_outD_int {i : Int} : outD (.int i) = ⟨.frz, .dat (.int i)⟩ := outD_int
@[simp] theorem v_outD_bool {i : Bool} : outD (.bool i) = ⟨.frz, .dat (.bool i)⟩ := outD_bool
@[simp] theorem v_outD_str {i : Str} : outD (.str i) = ⟨.frz, .dat (.str i)⟩ := outD_str
@[simp] theorem v_outD_non : outD .none = ⟨.frz, .dat .none⟩ := outD_non
@[simp] theorem v_outD_tup {ds : List PyData} : outD (.tuple ds) = ⟨.frz, .dat (.tuple ds)⟩ := outD_tup
@[simp] theorem v_outD_lst {ds : List PyData} : outD (.list ds) = ⟨.fre, .dat (.list ds)⟩ := outD_lst
@[simp] theorem v_vw_dat {sto : List SObj} {d : PyData} : view sto (.dat d) = some d := vw_dat
@[simp] theorem v_vws_nil {sto : List SObj} : views sto [] = some [] := vws_nil
@[simp] theorem v_vws_cons {sto : List SObj} {t : Tag} {d : PyData} {os : List Out} : views sto (⟨t, .dat d⟩ :: os) = (views sto os).map (d :: ·) := vws_cons
@[simp] theorem v_dts_nil : dats [] = some [] := dts_nil
@[simp] theorem v_dts_cons {t : Tag} {d : PyData} {os : List Out} : dats (⟨t, .dat d⟩ :: os) = (dats os).map (d :: ·) := dts_cons
@[simp] theorem v_frzA_nil {st : Stt} : frzA [] st = st := frzA_nil
@[simp] theorem v_frzA_cons {o : Out} {os : List Out} {st : Stt} : frzA (o :: os) st = frzA os (frz o st) := frzA_cons
@[simp] theorem v_c_lt {a : Int} {b : Int} : cmpA .Lt (.int a) (.int b) = some (decide (a < b)) := c_lt
@[simp] theorem v_c_le {a : Int} {b : Int} : cmpA .LtE (.int a) (.int b) = some (decide (a ≤ b)) := c_le
@[simp] theorem v_c_gt {a : Int} {b : Int} : cmpA .Gt (.int a) (.int b) = some (decide (b < a)) := c_gt
@[simp] theorem v_c_ge {a : Int} {b : Int} : cmpA .GtE (.int a) (.int b) = some (decide (b ≤ a)) := c_ge
@[simp] theorem v_c_eqi {a : Int} {b : Int} : cmpA .Eq (.int a) (.int b) = some (decide (a = b)) := c_eqi
@[simp] theorem v_c_nei {a : Int} {b : Int} : cmpA .NotEq (.int a) (.int b) = some (!decide (a = b)) := c_nei
@[simp] theorem v_c_eqs {s t : Str} : cmpA .Eq (.str s) (.str t) = some (decide (s = t)) := c_eqs
@[simp] theorem v_c_nes {s t : Str} : cmpA .NotEq (.str s) (.str t) = some (!decide (s = t)) := c_nes
@[simp] theorem v_n_add {a : Int} {b : Int} : binD .Add (.int a) (.int b) = some (.int (a + b)) := n_add
@[simp] theorem v_n_sub {a : Int} {b : Int} : binD .Sub (.int a) (.int b) = some (.int (a - b)) := n_sub
@[simp] theorem v_n_mulR {a : Int} {b : Int} (h : -18446744073709551616 < b ∧ b < 18446744073709551616) : binD .Mult (.int a) (.int b) = some (.int (a * b)) := n_mulR h
@[simp] theorem v_n_div {a : Int} {b : Int} (h : 0 < b ∧ b < 1073741824) : binD .FloorDiv (.int a) (.int b) = some (.int (a / b)) := n_div h
@[simp] theorem v_n_mod {a : Int} {b : Int} (h : 0 < b) : binD .Mod (.int a) (.int b) = some (.int (a % b)) := n_mod h
@[simp] theorem v_f_lenL {ds : List PyData} : bD .len [.list ds] = some (.int ds.length) := f_lenL
@[simp] theorem v_f_lenT {ds : List PyData} : bD .len [.tuple ds] = some (.int ds.length) := f_lenT
@[simp] theorem v_f_abs {a : Int} : bD .abs [.int a] = some (.int (if a < 0 then -a else a)) := f_abs
@[simp] theorem v_f_int {a : Int} : bD .int [.int a] = some (.int a) := f_int
@[simp] theorem v_f_intB {b : Bool} : bD .int [.bool b] = some (.int (if b then 1 else 0)) := f_intB
@[simp] theorem v_f_min2 {a : Int} {b : Int} : bD .min [.int a, .int b] = some (.int (if b < a then b else a)) := f_min2
@[simp] theorem v_f_max2 {a : Int} {b : Int} : bD .max [.int a, .int b] = some (.int (if b > a then b else a)) := f_max2
@[simp] theorem v_f_tupL {ds : List PyData} : bD .tuple [.list ds] = some (.tuple ds) := f_tupL
@[simp] theorem v_f_tupT {ds : List PyData} : bD .tuple [.tuple ds] = some (.tuple ds) := f_tupT
@[simp] theorem v_f_lstL {ds : List PyData} : bD .list [.list ds] = some (.list ds) := f_lstL
@[simp] theorem v_f_lstT {ds : List PyData} : bD .list [.tuple ds] = some (.list ds) := f_lstT
@[simp] theorem v_revL {ds : List PyData} : revD (.list ds) = some (.list ds.reverse) := revL
@[simp] theorem v_appS {i : Nat} {ds : List PyData} {e : List (Option EV)} {sto : List SObj} {d : PyData} {t : Tag} (h1 : (frz ⟨t, .dat d⟩ ⟨e, sto⟩).env[i]? = some (some ⟨true, .dat (.list ds)⟩)) (h2 : ds.length < SL) : appS ⟨.slot i, .dat (.list ds)⟩ ⟨t, .dat d⟩ ⟨e, sto⟩ = some { frz ⟨t, .dat d⟩ ⟨e, sto⟩ with env := (frz ⟨t, .dat d⟩ ⟨e, sto⟩).env.set i (some ⟨true, .dat (.list (ds ++ [d]))⟩) } := by
  unfold appS lstOf
  simp only [h1]
  rw [if_pos h2]
  rfl
theorem v_rmdS {i : Nat} {ds : List PyData} {d : PyData} {j : Nat} {e : List (Option EV)} {sto : List SObj} (h1 : e[i]? = some (some ⟨true, .dat (.list ds)⟩)) (h2 : SeqAt.shaped (.list ds) = true) (h3 : SeqAt.shaped d = true) (h4 : findD d ds 0 = some j) : rmdS ⟨.slot i, .dat (.list ds)⟩ ⟨.frz, .dat d⟩ ⟨e, sto⟩ = some ⟨e.set i (some ⟨true, .dat (.list (ds.eraseIdx j))⟩), sto⟩ := by
  have h1' : (frz ⟨.frz, .dat d⟩ ⟨e, sto⟩ : Stt).env[i]? = some (some ⟨true, .dat (.list ds)⟩) := h1
  unfold rmdS lstOf
  simp only [h1']
  rw [if_pos ⟨h2, h3⟩, h4]
  rfl
theorem v_extS {i : Nat} {ds es : List PyData} {e : List (Option EV)} {sto : List SObj} (h1 : e[i]? = some (some ⟨true, .dat (.list ds)⟩)) (h2 : ds.length + es.length ≤ SL) : extS ⟨.slot i, .dat (.list ds)⟩ ⟨.frz, .dat (.tuple es)⟩ ⟨e, sto⟩ = some ⟨e.set i (some ⟨true, .dat (.list (ds ++ es))⟩), sto⟩ := by
  have h1' : (frz ⟨.frz, .dat (.tuple es)⟩ ⟨e, sto⟩ : Stt).env[i]? = some (some ⟨true, .dat (.list ds)⟩) := h1
  unfold extS lstOf
  simp only [h1']
  rw [if_pos h2]
  rfl
@[simp] theorem v_lstS {i : Nat} {ds es : List PyData} {e : List (Option EV)} {sto : List SObj} (h1 : e[i]? = some (some ⟨true, .dat (.list es)⟩)) : (lstOf ⟨.slot i, .dat (.list ds)⟩ ⟨e, sto⟩) = some es := by
  unfold lstOf
  simp only [h1]
@[simp] theorem v_iterL {ds : List PyData} : iterV (.dat (.list ds)) = some ds := rfl
@[simp] theorem v_iterT {ds : List PyData} : iterV (.dat (.tuple ds)) = some ds := rfl
@[simp] theorem v_setO {i : Nat} {o : Out} {st : Stt} : setO i o st = { frz o st with env := (frz o st).env.set i (some ⟨(match o.tag with | .fre => true | _ => false), o.val⟩) } := rfl
@[simp] theorem v_wipe0 {e : List (Option EV)} : wipeE [] e = e := rfl
@[simp] theorem v_wipe1 {i : Nat} {is : List Nat} {e : List (Option EV)} : wipeE (i :: is) e = (wipeE is e).set i none := rfl
@[simp] theorem v_back0 {e o : List (Option EV)} : backE [] o e = e := rfl
@[simp] theorem v_back1 {i : Nat} {is : List Nat} {e o : List (Option EV)} : backE (i :: is) o e = (backE is o e).set i (o[i]?.getD none) := rfl
@[simp] theorem v_bnd {i : Nat} {d : PyData} {e : List (Option EV)} : bindT (.nm i) d e = if i < e.length then some (e.set i (some ⟨false, .dat d⟩)) else none := by simp only [bindT]
@[simp] theorem v_bndT {ts : List Tg} {ds : List PyData} {e : List (Option EV)} : bindT (.tup ts) (.tuple ds) e = bindTs ts ds e := by simp only [bindT]
@[simp] theorem v_bndL {ts : List Tg} {ds : List PyData} {e : List (Option EV)} : bindT (.tup ts) (.list ds) e = bindTs ts ds e := by simp only [bindT]
@[simp] theorem v_bnd0 {e : List (Option EV)} : bindTs [] [] e = some e := by simp only [bindTs]
@[simp] theorem v_bnd1 {t : Tg} {ts : List Tg} {d : PyData} {ds : List PyData} {e : List (Option EV)} : bindTs (t :: ts) (d :: ds) e = (bindT t d e).bind fun e' => bindTs ts ds e' := by simp only [bindTs]
@[simp] theorem v_fs0 {st : Stt} : frzSlots [] st = st := rfl
@[simp] theorem v_fs1 {o : Out} {os : List Out} {st : Stt} : frzSlots (o :: os) st = frzSlots os (frz o st) := rfl
@[simp] theorem v_sp1 {i : Nat} {is : List Nat} {o : Out} {os : List Out} {e : List (Option EV)} : setPar (i :: is) (o :: os) e = (setPar is os e).set i (some ⟨(match o.tag with | .fre => true | _ => false), o.val⟩) := rfl
@[simp] theorem v_sp0 {e : List (Option EV)} : setPar [] [] e = e := rfl
@[simp] theorem v_ends {Q : EV → List SObj → Prop} {o : Out} {st : Stt} : (ends Q).rt o st = Q (retEV o) st.sto := rfl
@[simp] theorem v_rF {v : Val} : retEV ⟨.frz, v⟩ = ⟨false, v⟩ := rfl
@[simp] theorem v_rS {i : Nat} {v : Val} : retEV ⟨.slot i, v⟩ = ⟨true, v⟩ := rfl
@[simp] theorem v_rN {v : Val} : retEV ⟨.fre, v⟩ = ⟨true, v⟩ := rfl
@[simp] theorem v_sI {i : Int} : scalarV (.dat (.int i)) = true := rfl
@[simp] theorem v_sB {i : Bool} : scalarV (.dat (.bool i)) = true := rfl
@[simp] theorem v_sS {i : Str} : scalarV (.dat (.str i)) = true := rfl
@[simp] theorem v_sN : scalarV (.dat .none) = true := rfl
@[simp] theorem v_sT {ds : List PyData} : scalarV (.dat (.tuple ds)) = false := rfl
@[simp] theorem v_sL {ds : List PyData} : scalarV (.dat (.list ds)) = false := rfl
@[simp] theorem v_sD {ds : List (PyData × PyData)} : scalarV (.dat (.dict ds)) = false := rfl
@[simp] theorem v_sR {i : Nat} : scalarV (.ref i) = false := rfl
@[simp] theorem v_seqL {ds : List PyData} : seqD (.list ds) = some ds := rfl
@[simp] theorem v_seqT {ds : List PyData} : seqD (.tuple ds) = some ds := rfl
@[simp] theorem v_nonN : nonD .none = true := rfl
@[simp] theorem v_idxT {ds : List PyData} {i : Int} : idxD (.tuple ds) (.int i) = atI ds i := rfl
@[simp] theorem v_idxL {ds : List PyData} {i : Int} : idxD (.list ds) (.int i) = atI ds i := rfl
@[simp] theorem v_getS {sto : List SObj} {d k : PyData} : getS sto (.dat d) (.dat k) = (idxD d k).map fun r => ⟨.frz, .dat r⟩ := rfl
@[simp] theorem v_at0 {α : Type} {x : α} {xs : List α} : atI (x :: xs) 0 = some x := by exact at_nat (i := 0) rfl
@[simp] theorem v_at1 {α : Type} {x y : α} {xs : List α} : atI (x :: y :: xs) 1 = some y := by exact at_nat (i := 1) rfl
@[simp] theorem v_at2 {α : Type} {x y z : α} {xs : List α} : atI (x :: y :: z :: xs) 2 = some z := by exact at_nat (i := 2) rfl
@[simp] theorem v_okAs0 {st : Stt} : okAs [] st = True := by simp [okAs]
@[simp] theorem v_okAs1 {o : Out} {os : List Out} {st : Stt} : okAs (o :: os) st = (okO o st ∧ okAs os st) := by simp [okAs]
end Ev
end

section
set_option Elab.async false
set_option linter.all false
set_option maxRecDepth 100000
/-! Ev29: ranges, what is mixed, drawn nets (rings together, or any). -/
namespace Ev
open PySem PySem.Spec PyProof.Rows L2

theorem net0 (n : Int) (ls : List (Int × Int)) : idxD (netD n ls) (.int 0) = some (.int n) := rfl
theorem net1 (n : Int) (ls : List (Int × Int)) : idxD (netD n ls) (.int 1) = some (.tuple (ls.map lk)) := rfl
def rngI (n : Int) : List Int := (List.range n.toNat).map fun i : Nat => (i : Int)
theorem rngI_len (n : Int) : (rngI n).length = n.toNat := by simp [rngI]
theorem rngI_eq (n : Int) : rngD 0 n.toNat = (rngI n).map PyData.int := by
  rw [rngD_eq]
  unfold rngI
  rw [List.map_map]
  refine List.map_congr_left fun i _ => ?_
  simp
theorem rngI_mem {n i : Int} : i ∈ rngI n ↔ 0 ≤ i ∧ i < n := by
  unfold rngI
  rw [List.mem_map]
  constructor
  · rintro ⟨k, hk, rfl⟩
    rw [List.mem_range] at hk
    omega
  · rintro ⟨h0, h1⟩
    exact ⟨i.toNat, by rw [List.mem_range]; omega, by omega⟩
theorem rngI_nodup (n : Int) : (rngI n).Nodup := by
  unfold rngI
  refine List.Pairwise.map _ (R := fun a b => a ≠ b) (fun a b h => ?_) List.nodup_range
  intro e
  exact h (by omega)
/-- what comes of mixing a range -/
theorem mix_rng {n : Int} {r : List PyData} (h : r.Perm (rngD 0 n.toNat)) : ∃ l : List Int, r = l.map PyData.int ∧ l.Nodup ∧ l.length = n.toNat ∧ (∀ i ∈ l, 0 ≤ i ∧ i < n) ∧ l.Perm (rngI n) := by
  rw [rngI_eq] at h
  obtain ⟨l, hl, rfl⟩ := perm_lift PyData.int h (rngI n) rfl
  exact ⟨l, rfl, hl.nodup_iff.mpr (rngI_nodup n), by rw [hl.length_eq, rngI_len], fun i hi => rngI_mem.mp (hl.mem_iff.mp hi), hl⟩
theorem mix_map {α : Type} {f : α → PyData} {xs : List α} {r : List PyData} (h : r.Perm (xs.map f)) : ∃ l : List α, r = l.map f ∧ l.Perm xs := by
  obtain ⟨l, hl, rfl⟩ := perm_lift f h xs rfl
  exact ⟨l, rfl, hl⟩
/-- a pair, ascending -/
def asc (a b : Int) : Int × Int := if a ≤ b then (a, b) else (b, a)
theorem srt_two (a b : Int) : srt [.int a, .int b] = [.int (asc a b).1, .int (asc a b).2] := by
  have := srt_map PyData.int [a, b]
  simp only [List.map_cons, List.map_nil] at this
  rw [this]
  unfold srtBy
  have e := PySem.W.dataLe_int (fun b : Int => b)
  rw [show PySem.W.dataLe false PyData.int = fun a b : Int => decide (a ≤ b) from e]
  unfold asc
  by_cases h : a ≤ b
  · simp [List.mergeSort, List.merge, List.MergeSort.Internal.splitInTwo, h]
  · simp [List.mergeSort, List.merge, List.MergeSort.Internal.splitInTwo, h]
def LinkOk (n : Int) (p : Int × Int) : Prop := 0 ≤ p.1 ∧ p.1 < p.2 ∧ p.2 < n
theorem asc_ok {n a b : Int} (h0 : 0 ≤ a ∧ a < n) (h1 : 0 ≤ b ∧ b < n) (h : a ≠ b) : LinkOk n (asc a b) := by
  unfold asc LinkOk
  split <;> simp <;> omega
theorem minmax_asc (a b : Int) : (if b < a then b else a) = (asc a b).1 ∧ (if b > a then b else a) = (asc a b).2 := by
  unfold asc
  by_cases h : a ≤ b
  · rw [if_pos h, if_neg (by omega)]
    refine ⟨rfl, ?_⟩
    split
    · rfl
    · show a = b
      omega
  · rw [if_neg h, if_pos (by omega), if_neg (by omega)]
    exact ⟨rfl, rfl⟩
def NetOk (n : Int) (ls : List (Int × Int)) : Prop := ∀ p ∈ ls, LinkOk n p
theorem NetOk.sz {n : Int} {ls : List (Int × Int)} (h : NetOk n ls) (hn : n ≤ 1000) : ∀ p ∈ ls, I40 p.1 ∧ I40 p.2 := fun p hp => by
  obtain ⟨h1, h2, h3⟩ := h p hp
  exact ⟨I40.of (by omega), I40.of (by omega)⟩
theorem at_neg1 {l : List Int} (h : l ≠ []) : ∃ a ∈ l, atI (l.map PyData.int) (-1) = some (.int a) ∧ l[l.length - 1]? = some a := by
  have hl := List.length_pos_iff.mpr h
  have e := List.getElem?_eq_getElem (l := l) (i := l.length - 1) (by omega)
  refine ⟨l[l.length - 1], List.getElem_mem _, ?_, e⟩
  unfold atI ixN
  simp only [List.length_map]
  rw [if_neg (by omega), if_pos (by omega), show (-1 + (l.length : Int)).toNat = l.length - 1 by omega]
  simp [e]
theorem rngD2_eq (lo : Int) (n : Nat) : rngD lo n = ((List.range n).map fun i : Nat => lo + i).map PyData.int := by
  rw [rngD_eq, List.map_map]; rfl

theorem rngN (lo n : Nat) : rngD (lo : Int) n = ((List.range n).map fun i => lo + i).map fun j : Nat => PyData.int (j : Int) := by
  rw [rngD_eq, List.map_map]
  refine List.map_congr_left fun i _ => ?_
  simp
theorem ring_at {n : Int} {l : List Int} (hnd : l.Nodup) (hll : l.length = n.toNat) (hn : 2 ≤ n) {k : Nat} (hk : k < n.toNat) : ∃ a b, atI (l.map PyData.int) ((k : Int) - 1) = some (.int a) ∧ atI (l.map PyData.int) (k : Int) = some (.int b) ∧ a ≠ b ∧ a ∈ l ∧ b ∈ l := by
  have hb : l[k]? = some l[k] := List.getElem?_eq_getElem (by omega)
  have hb' : atI (l.map PyData.int) (k : Int) = some (.int l[k]) := at_nat (by rw [List.getElem?_map, hb]; rfl)
  by_cases h0 : k = 0
  · subst h0
    obtain ⟨a, ha, e1, e2⟩ := at_neg1 (l := l) (by intro e; subst e; simp at hll; omega)
    refine ⟨a, l[0], by simpa using e1, hb', ?_, ha, List.getElem_mem _⟩
    rintro rfl
    have e3 : l[l.length - 1] = l[0] := by
      have := List.getElem?_eq_getElem (l := l) (i := l.length - 1) (by omega)
      rw [e2] at this
      exact (Option.some.inj this).symm
    exact List.pairwise_iff_getElem.mp hnd 0 (l.length - 1) (by omega) (by omega) (by omega) e3.symm
  · have ha : l[k - 1]? = some l[k - 1] := List.getElem?_eq_getElem (by omega)
    refine ⟨l[k - 1], l[k], ?_, hb', ?_, List.getElem_mem _, List.getElem_mem _⟩
    · rw [show (k : Int) - 1 = ((k - 1 : Nat) : Int) by omega]
      exact at_nat (by rw [List.getElem?_map, ha]; rfl)
    · exact List.pairwise_iff_getElem.mp hnd (k - 1) k (by omega) (by omega) (by omega)
def B_netA : ISs := (.cons (.par [3, 4, 5] (.cons (.bin .Add (.int 2) (.call "_law_pick" (.cons (.var 0) (.cons (.bin .Sub (.var 1) (.int 1)) .nil)))) (.cons (.lst .nil) (.cons (.call "_law_pick" (.cons (.var 0) (.cons (.int 4) .nil))) .nil)))) (.cons (.for_ (.nm 6) (.rg1 (.ife (.cmp .Gt (.var 5) (.int 0)) (.bin .Add (.int 1) (.call "_law_pick" (.cons (.var 0) (.cons (.int 3) .nil)))) (.int 0))) (.cons (.asg 7 (.call "_law_mixed" (.cons (.var 0) (.cons (.lrg false (.rg1 (.var 3))) .nil)))) (.cons (.asg 4 (.bin .Add (.var 4) (.comp (.bcl .tuple (.cons (.bcl .sorted (.cons (.tup (.cons (.idx (.var 7) (.bin .Sub (.var 10) (.int 1))) (.cons (.idx (.var 7) (.var 10)) .nil))) .nil)) .nil)) (.nm 10) (.rg2 (.bcl .int (.cons (.cmp .Eq (.var 3) (.int 2)) .nil)) (.var 3)) .no [10]))) .nil))) (.cons (.for_ (.nm 6) (.rg1 (.call "_law_pick" (.cons (.var 0) (.cons (.ife (.cmp .Eq (.var 5) (.int 0)) (.bin .Add (.var 2) (.int 1)) (.int 5)) .nil)))) (.cons (.unp (.tup [(.nm 8), (.nm 9)]) (.slc (.call "_law_mixed" (.cons (.var 0) (.cons (.lrg false (.rg1 (.var 3))) .nil))) .no (.so (.int 2)))) (.cons (.exp (.app (.var 4) (.tup (.cons (.bcl .min (.cons (.var 8) (.cons (.var 9) .nil))) (.cons (.bcl .max (.cons (.var 8) (.cons (.var 9) .nil))) .nil))))) .nil))) (.cons (.ret (.tup (.cons (.var 3) (.cons (.bcl .tuple (.cons (.bcl .sorted (.cons (.slc (.call "_law_mixed" (.cons (.var 0) (.cons (.var 4) .nil))) .no (.so (.var 2))) .nil)) .nil)) .nil)))) .nil))))
def p_netA : Pre := fun args sto Q => ∃ st most : Int, args = [.ref 1, .dat (.int st), .dat (.int most)] ∧ 2 ≤ st ∧ st ≤ 100 ∧ 0 ≤ most ∧ most ≤ 1000 ∧ SrcOk sto ∧
  ∀ n ls sto', SrcOk sto' → 2 ≤ n → n ≤ st → (ls.length : Int) ≤ most → NetOk n ls → Q ⟨false, .dat (netD n ls)⟩ sto'
def E_net (st most n : Int) (fs : List (Int × Int)) (way : Int) (c7 r8 : Option EV) (c8 c9 : Option EV) : List (Option EV) :=
  [some ⟨false, .ref 1⟩, some ⟨false, .dat (.int st)⟩, some ⟨false, .dat (.int most)⟩, some ⟨false, .dat (.int n)⟩, some ⟨true, .dat (.list (fs.map lk))⟩, some ⟨false, .dat (.int way)⟩, c7, r8, c8, c9, none]
theorem netA_end {S : SpecK} {st most n way : Int} {fs : List (Int × Int)} {c7 r8 c8 c9 : Option EV} {sto : List SObj} {Q : EV → List SObj → Prop} (hmix : Has S "_law_mixed" p_mixed) (hs : SrcOk sto) (hm0 : 0 ≤ most) (hfl : fs.length ≤ 2000) (hfo : NetOk n fs)
    (h : ∀ ls sto', SrcOk sto' → (ls.length : Int) ≤ most → NetOk n ls → Q ⟨false, .dat (netD n ls)⟩ sto') :
    wpSs S (.cons (.ret (.tup (.cons (.var 3) (.cons (.bcl .tuple (.cons (.bcl .sorted (.cons (.slc (.call "_law_mixed" (.cons (.var 0) (.cons (.var 4) .nil))) .no (.so (.var 2))) .nil)) .nil)) .nil)))) .nil) (ends Q) ⟨E_net st most n fs way c7 r8 c8 c9, sto⟩ := by
  refine step fun K hK => ?_
  simp [E_net]
  refine hmix _ _ _ ⟨.list (fs.map lk), fs.map lk, rfl, rfl, by simp; omega, hs, fun r sto1 hs1 hr => ?_⟩
  obtain ⟨l, rfl, hl⟩ := mix_map hr
  simp [slc_to hm0]
  rw [← List.map_take]
  have hsub : ∀ p ∈ srtBy lk (l.take most.toNat), p ∈ fs := fun p hp => hl.mem_iff.mp (List.mem_of_mem_take ((srtBy_perm lk _).mem_iff.mp hp))
  have hlen : (srtBy lk (l.take most.toNat)).length ≤ most.toNat := by
    rw [(srtBy_perm lk _).length_eq, List.length_take]; omega
  refine ⟨_, f_srtL (sortOk_lk (by have := hl.length_eq; rw [List.length_take]; omega)), ?_⟩
  rw [srt_map]
  simp [SL_eq]
  exact h _ _ hs1 (by omega) fun p hp => hfo p (hsub p hp)
theorem netA_two {S : SpecK} {E : EndsP} {st most n way : Int} {fs : List (Int × Int)} {c7 r8 : Option EV} {sto : List SObj} (hpick : Has S "_law_pick" p_pick) (hmix : Has S "_law_mixed" p_mixed) (hs : SrcOk sto) (hm0 : 0 ≤ most) (hm1 : most ≤ 1000) (hn : 2 ≤ n ∧ n ≤ 100) (hfl : fs.length ≤ 900) (hfo : NetOk n fs)
    (h : ∀ fs c7 r8 c8 c9 sto', SrcOk sto' → fs.length ≤ 2000 → NetOk n fs → E.nx ⟨E_net st most n fs way c7 r8 c8 c9, sto'⟩) :
    wpS S (.for_ (.nm 6) (.rg1 (.call "_law_pick" (.cons (.var 0) (.cons (.ife (.cmp .Eq (.var 5) (.int 0)) (.bin .Add (.var 2) (.int 1)) (.int 5)) .nil)))) (.cons (.unp (.tup [(.nm 8), (.nm 9)]) (.slc (.call "_law_mixed" (.cons (.var 0) (.cons (.lrg false (.rg1 (.var 3))) .nil))) .no (.so (.int 2)))) (.cons (.exp (.app (.var 4) (.tup (.cons (.bcl .min (.cons (.var 8) (.cons (.var 9) .nil))) (.cons (.bcl .max (.cons (.var 8) (.cons (.var 9) .nil))) .nil))))) .nil))) E ⟨E_net st most n fs way c7 r8 none none, sto⟩ := by
  have key : ∀ (b : ISs), b = (.cons (.unp (.tup [(.nm 8), (.nm 9)]) (.slc (.call "_law_mixed" (.cons (.var 0) (.cons (.lrg false (.rg1 (.var 3))) .nil))) .no (.so (.int 2)))) (.cons (.exp (.app (.var 4) (.tup (.cons (.bcl .min (.cons (.var 8) (.cons (.var 9) .nil))) (.cons (.bcl .max (.cons (.var 8) (.cons (.var 9) .nil))) .nil))))) .nil)) →
      ∀ (k : Int), k ≤ 1001 → S "_law_pick" [.ref 1, .dat (.int k)] sto fun r sto' => ∃ i, r.val = .dat (.int i) ∧ bigI i ∧ wpLoop (forQ S (.nm 6) b E) E.nx (rngD 0 i.toNat) ⟨E_net st most n fs way c7 r8 none none, sto'⟩ := by
    intro bb hbb k hk
    refine hpick _ _ _ ⟨k, rfl, by omega, hs, fun m sto1 hs1 hm0 hm1 => ⟨m, rfl, ⟨by omega, by omega⟩, ?_⟩⟩
    rw [rngI_eq]
    refine loop_inv (fun r s => ∃ fs c7 r8 c8 c9 sto, s = ⟨E_net st most n fs way c7 r8 c8 c9, sto⟩ ∧ SrcOk sto ∧ fs.length + r.length ≤ 2000 ∧ NetOk n fs) ?_ ?_ (rngI m) _ ⟨fs, c7, r8, none, none, sto1, rfl, hs1, by rw [rngI_len]; omega, hfo⟩
    · rintro x r s K' ⟨fs, c7, r8, c8, c9, sto, rfl, hs, hl, hf⟩ hK'
      subst hbb
      refine ⟨_, rfl, step fun K2 hK2 => ?_⟩
      simp [E_net]
      refine ⟨⟨by omega, by omega⟩, hmix _ _ _ ⟨.list (rngD 0 n.toNat), rngD 0 n.toNat, rfl, rfl, by rw [rngI_eq, List.length_map, rngI_len]; omega, hs, fun rr sto1 hs1 hr => ?_⟩⟩
      obtain ⟨l, rfl, hnd, hll, hlm, _⟩ := mix_rng hr
      match l, hnd, hll, hlm with
      | [], _, hll, _ => simp at hll; omega
      | [_], _, hll, _ => simp at hll; omega
      | a :: b :: l, hnd, hll, hlm =>
      simp [slc_to]
      subst hK2
      have hab : a ≠ b := by
        intro e
        subst e
        simp at hnd
      have ha := hlm a (by simp)
      have hb := hlm b (by simp)
      have hl' : fs.length + (r.length + 1) ≤ 2000 := hl
      refine step fun K2 hK2 => ?_
      have hmm := minmax_asc a b
      simp [SL_eq]
      refine ⟨_, v_appS rfl (by simp [SL_eq]; omega), ?_⟩
      subst hK2
      refine last ?_
      refine hK' _ ?_
      refine ⟨fs ++ [asc a b], some ⟨false, .dat (.int x)⟩, r8, some ⟨false, .dat (.int a)⟩, some ⟨false, .dat (.int b)⟩, sto1, ?_, hs1, by simp at hl ⊢; omega, ?_⟩
      · have e1 : (if b < a then b else a) = (asc a b).1 := hmm.1
        have e2 : (if a < b then b else a) = (asc a b).2 := hmm.2
        simp [E_net, lk, e1, e2]
      · intro p hp
        rcases List.mem_append.mp hp with hp | hp
        · exact hf p hp
        · simp at hp; subst hp; exact asc_ok ha hb hab
    · rintro s ⟨fs, c7, r8, c8, c9, sto, rfl, hs, hl, hf⟩
      exact h fs c7 r8 c8 c9 sto hs (by simpa using hl) hf
  generalize hbb : (ISs.cons (IS.unp _ _) _) = bb
  simp [E_net]
  by_cases hw : way = 0
  · refine .inr ⟨hw, ?_⟩
    exact key _ hbb.symm (most + 1) (by omega)
  · refine .inl ⟨hw, ?_⟩
    exact key _ hbb.symm 5 (by omega)
theorem netA_one {S : SpecK} {E : EndsP} {st most n way : Int} {sto : List SObj} (hpick : Has S "_law_pick" p_pick) (hmix : Has S "_law_mixed" p_mixed) (hs : SrcOk sto) (hn : 2 ≤ n ∧ n ≤ 100)
    (h : ∀ fs c7 r8 sto', SrcOk sto' → fs.length ≤ 900 → NetOk n fs → E.nx ⟨E_net st most n fs way c7 r8 none none, sto'⟩) :
    wpS S (.for_ (.nm 6) (.rg1 (.ife (.cmp .Gt (.var 5) (.int 0)) (.bin .Add (.int 1) (.call "_law_pick" (.cons (.var 0) (.cons (.int 3) .nil)))) (.int 0))) (.cons (.asg 7 (.call "_law_mixed" (.cons (.var 0) (.cons (.lrg false (.rg1 (.var 3))) .nil)))) (.cons (.asg 4 (.bin .Add (.var 4) (.comp (.bcl .tuple (.cons (.bcl .sorted (.cons (.tup (.cons (.idx (.var 7) (.bin .Sub (.var 10) (.int 1))) (.cons (.idx (.var 7) (.var 10)) .nil))) .nil)) .nil)) (.nm 10) (.rg2 (.bcl .int (.cons (.cmp .Eq (.var 3) (.int 2)) .nil)) (.var 3)) .no [10]))) .nil))) E ⟨E_net st most n [] way none none none none, sto⟩ := by
  have key : ∀ (b : ISs), b = (.cons (.asg 7 (.call "_law_mixed" (.cons (.var 0) (.cons (.lrg false (.rg1 (.var 3))) .nil)))) (.cons (.asg 4 (.bin .Add (.var 4) (.comp (.bcl .tuple (.cons (.bcl .sorted (.cons (.tup (.cons (.idx (.var 7) (.bin .Sub (.var 10) (.int 1))) (.cons (.idx (.var 7) (.var 10)) .nil))) .nil)) .nil)) (.nm 10) (.rg2 (.bcl .int (.cons (.cmp .Eq (.var 3) (.int 2)) .nil)) (.var 3)) .no [10]))) .nil)) →
      ∀ (m : Int) (sto : List SObj), SrcOk sto → m ≤ 3 → wpLoop (forQ S (.nm 6) b E) E.nx (rngD 0 m.toNat) ⟨E_net st most n [] way none none none none, sto⟩ := by
    intro bb hbb m sto hs hm
    rw [rngI_eq]
    refine loop_inv (fun r s => ∃ fs c7 r8 sto, s = ⟨E_net st most n fs way c7 r8 none none, sto⟩ ∧ SrcOk sto ∧ fs.length + r.length * 100 ≤ 300 ∧ NetOk n fs) ?_ ?_ (rngI m) _ ⟨[], none, none, sto, rfl, hs, (by rw [rngI_len]; simp; omega), fun p hp => by cases hp⟩
    · rintro x r s K' ⟨fs, c7, r8, sto, rfl, hs, hl, hf⟩ hK'
      subst hbb
      refine ⟨_, rfl, step fun K2 hK2 => ?_⟩
      simp [E_net]
      refine ⟨⟨by omega, by omega⟩, hmix _ _ _ ⟨.list (rngD 0 n.toNat), rngD 0 n.toNat, rfl, rfl, by rw [rngI_eq, List.length_map, rngI_len]; omega, hs, fun rr sto1 hs1 hr => ?_⟩⟩
      obtain ⟨l, rfl, hnd, hll, hlm, _⟩ := mix_rng hr
      simp
      subst hK2
      refine step fun K2 hK2 => ?_
      have hl' : fs.length + (r.length + 1) * 100 ≤ 300 := hl
      have comp : ∀ (lo cnt : Nat), lo + cnt ≤ n.toNat → wpComp (okAs []) (compQ S (.bcl .tuple (.cons (.bcl .sorted (.cons (.tup (.cons (.idx (.var 7) (.bin .Sub (.var 10) (.int 1))) (.cons (.idx (.var 7) (.var 10)) .nil))) .nil)) .nil)) (.nm 10) .no [10])
          (fun acc st5 => st5.env[4]? = some (some ⟨true, .dat (.list (fs.map lk))⟩) ∧ ∃ x, binD .Add (.list (fs.map lk)) (.list acc) = some x ∧ 4 < st5.env.length ∧ K2 ⟨(frz (outD x) ⟨st5.env.set 10 none, st5.sto⟩).env.set 4 (some ⟨match (outD x).tag with | .fre => true | _ => false, (outD x).val⟩), (frz (outD x) ⟨st5.env.set 10 none, st5.sto⟩).sto⟩)
          (rngD (lo : Int) cnt) [] ⟨(E_net st most n fs way (some ⟨false, .dat (.int x)⟩) (some ⟨true, .dat (.list (l.map .int))⟩) none none), sto1⟩ := by
        intro lo cnt hlc
        rw [rngN]
        refine comp_inv (fun r acc st' => st' = ⟨E_net st most n fs way (some ⟨false, .dat (.int x)⟩) (some ⟨true, .dat (.list (l.map .int))⟩) none none, sto1⟩ ∧ ∃ fs', acc = fs'.map lk ∧ NetOk n fs' ∧ fs'.length + r.length ≤ 100 ∧ ∀ k ∈ r, k < n.toNat) ?_ ?_ ?_ ?_ _ [] _ ⟨rfl, [], rfl, (fun p hp => by cases hp), (by simp; omega), fun k hk => ?_⟩
        · rintro r acc st' _
          simp
        · rintro k r acc st' ⟨_, fs', rfl, _, h1, _⟩
          simp [SL_eq] at h1 ⊢
          omega
        · rintro k r acc st' K3 ⟨rfl, fs', rfl, h1, h2, h3⟩ hK3
          have hk := h3 k (by simp)
          obtain ⟨a, b, ea, eb, hab, ha, hb⟩ := ring_at hnd hll (by omega) hk
          refine ⟨_, rfl, ?_⟩
          simp [E_net, ea, eb, SL_eq, f_srtT (sortOk_int (xs := [a, b]) (by simp)), srt_two]
          refine ⟨_, f_srtT (sortOk_int (xs := [a, b]) (by simp)), ?_⟩
          rw [srt_two]
          simp
          refine hK3 _ _ ⟨rfl, fs' ++ [asc a b], ?_, ?_, ?_, ?_⟩
          · simp [lk]
          · intro p hp
            rcases List.mem_append.mp hp with hp | hp
            · exact h1 p hp
            · simp at hp; subst hp; exact asc_ok (hlm a ha) (hlm b hb) hab
          · simp at h2 ⊢; omega
          · exact fun k hk => h3 k (by simp [hk])
        · rintro acc st' ⟨rfl, fs', rfl, h1, h2, _⟩
          simp [E_net]
          simp at h2
          refine ⟨_, n_addL (by simp [SL_eq]; omega), ?_⟩
          simp
          subst hK2
          refine last ?_
          refine hK' _ ?_
          refine ⟨fs ++ fs', some ⟨false, .dat (.int x)⟩, some ⟨true, .dat (.list (l.map .int))⟩, sto1, ?_, hs1, ?_, ?_⟩
          · simp [E_net]
          · simp; omega
          · intro p hp
            rcases List.mem_append.mp hp with hp | hp
            · exact hf p hp
            · exact h1 p hp
        · simp at hk
          omega
      simp
      by_cases hn2 : n = 2
      · refine .inr ⟨hn2, ⟨by omega, by omega⟩, ⟨by omega, by omega⟩, ?_⟩
        exact comp 1 (n.toNat - 1) (by omega)
      · refine .inl ⟨hn2, ⟨by omega, by omega⟩, ⟨by omega, by omega⟩, ?_⟩
        exact comp 0 n.toNat (by omega)
    · rintro s ⟨fs, c7, r8, sto, rfl, hs, hl, hf⟩
      exact h fs c7 r8 sto hs (by simp at hl; omega) hf
  generalize hbb : (ISs.cons (IS.asg _ _) _) = bb
  simp [E_net]
  by_cases hw : 0 < way
  · refine .inr ⟨hw, ?_⟩
    refine hpick _ _ _ ⟨3, rfl, by omega, hs, fun m sto1 hs1 hm0 hm1 => ?_⟩
    simp
    exact ⟨⟨by omega, by omega⟩, key _ hbb.symm _ _ hs1 (by omega)⟩
  · refine .inl ⟨by omega, ⟨by omega, by omega⟩, ?_⟩
    exact key _ hbb.symm 0 _ hs (by omega)
theorem g_netA (S : SpecK) (d : DefI) (hb : d.body = B_netA) (hN : d.N.length = 11) (hp : d.ps.length = 3) (hpick : Has S "_law_pick" p_pick) (hmix : Has S "_law_mixed" p_mixed) : Keeps1 S d p_netA := by
  rintro args sto Q ⟨st, most, rfl, hs1, hs2, hm0, hm1, hs, h⟩
  refine ⟨hp.symm, ?_⟩
  rw [hb]
  unfold B_netA
  have h0 : startE d.N [.ref 1, .dat (.int st), .dat (.int most)] = [some ⟨false, .ref 1⟩, some ⟨false, .dat (.int st)⟩, some ⟨false, .dat (.int most)⟩, none, none, none, none, none, none, none, none] := by simp [startE, hN, List.replicate]
  rw [h0]
  refine step fun K hK => ?_
  simp
  refine hpick _ _ _ ⟨st - 1, rfl, by omega, hs, fun v sto1 hs1' hv0 hv1 => ?_⟩
  simp
  refine hpick _ _ _ ⟨4, rfl, by omega, hs1', fun way sto2 hs2' hw0 hw1 => ?_⟩
  simp
  have hn2 : 2 ≤ 2 + v := by omega
  have hn3 : 2 + v ≤ st := by omega
  generalize 2 + v = n at hn2 hn3
  subst hK
  refine step fun K hK => ?_
  refine netA_one hpick hmix hs2' ⟨hn2, by omega⟩ fun fs c7 r8 sto3 hs3 hfl hfo => ?_
  show K _
  subst hK
  refine step fun K hK => ?_
  refine netA_two hpick hmix hs3 hm0 hm1 ⟨hn2, by omega⟩ hfl hfo fun fs c7 r8 c8 c9 sto4 hs4 hfl hfo => ?_
  show K _
  subst hK
  exact netA_end hmix hs4 hm0 hfl hfo fun ls sto' hs' hl hls => h n ls sto' hs' hn2 hn3 hl hls
end Ev
end

section
set_option Elab.async false
set_option linter.all false
set_option maxRecDepth 100000
/-! Ev30: dicts with ints as keys; drawn turns. -/
namespace Ev
open PySem PySem.Spec PyProof.Rows L2

def dI (D : List (Int × PyData)) : List (PyData × PyData) := D.map fun p => (.int p.1, p.2)
def putI (k : Int) (v : PyData) (D : List (Int × PyData)) : List (Int × PyData) := if (D.lookup k).isSome then D.map fun p => if p.1 = k then (p.1, v) else p else D ++ [(k, v)]
theorem lookD_dI (k : Int) : ∀ D : List (Int × PyData), lookD (.int k) (dI D) = D.lookup k
  | [] => rfl
  | (j, v) :: D => by
    show (if keyEq (.int j) (.int k) = true then some v else lookD (.int k) (dI D)) = _
    rw [lookD_dI k D, List.lookup_cons]
    by_cases h : j = k
    · subst h; simp [keyEq]
    · have h' : (k == j) = false := by simpa using fun e : k = j => h e.symm
      simp only [keyEq, h, h', decide_false, Bool.false_eq_true, if_false]
theorem kinds_dI (k : Int) (D : List (Int × PyData)) : kinds (.int k) (dI D) = true := by
  simp only [kinds, dI, List.all_map, List.all_eq_true]
  intro p _
  rfl
theorem putD_dI (k : Int) (v : PyData) (D : List (Int × PyData)) : putD (.int k) v (dI D) = dI (putI k v D) := by
  unfold putD putI
  rw [lookD_dI]
  split
  · unfold dI
    rw [List.map_map, List.map_map]
    refine List.map_congr_left fun p _ => ?_
    simp only [Function.comp_def, keyEq, decide_eq_true_eq]
    split <;> rfl
  · simp [dI]
theorem lookup_upd (k j : Int) (v : PyData) : ∀ D : List (Int × PyData), (D.map fun p => if p.1 = k then (p.1, v) else p).lookup j = if j = k then (D.lookup j).map fun _ => v else D.lookup j
  | [] => by simp
  | (i, u) :: D => by
    rw [List.map_cons, List.lookup_cons, lookup_upd k j v D]
    by_cases h1 : i = k
    · subst h1
      by_cases h2 : j = i
      · subst h2; simp
      · have : (j == i) = false := by simpa using h2
        simp [h2, this, List.lookup_cons]
    · by_cases h2 : j = k
      · subst h2
        have : (j == i) = false := by simpa using fun e : j = i => h1 e.symm
        simp [h1, this, List.lookup_cons]
      · simp only [h1, h2, if_false, List.lookup_cons]
theorem lookup_app (j k : Int) (v : PyData) : ∀ D : List (Int × PyData), (D ++ [(k, v)]).lookup j = match D.lookup j with | some u => some u | none => if j = k then some v else none
  | [] => by
    simp only [List.nil_append, List.lookup_cons, List.lookup_nil]
    by_cases h : j = k
    · subst h; simp
    · have : (j == k) = false := by simpa using h
      simp [h, this]
  | (i, u) :: D => by
    rw [List.cons_append, List.lookup_cons, List.lookup_cons, lookup_app j k v D]
    by_cases h : j == i <;> simp [h]
theorem lookup_putI (k j : Int) (v : PyData) (D : List (Int × PyData)) : (putI k v D).lookup j = if j = k then some v else D.lookup j := by
  unfold putI
  split
  · rename_i h
    rw [lookup_upd]
    by_cases e : j = k
    · subst e
      obtain ⟨u, hu⟩ := Option.isSome_iff_exists.mp h
      simp [hu]
    · simp [e]
  · rename_i h
    rw [lookup_app]
    by_cases e : j = k
    · subst e
      cases hd : D.lookup j with
      | none => simp
      | some u => rw [hd] at h; simp at h
    · simp only [e, if_false]
      cases D.lookup j <;> rfl
theorem len_putI (k : Int) (v : PyData) (D : List (Int × PyData)) : (putI k v D).length ≤ D.length + 1 := by
  unfold putI
  split <;> simp
theorem idx_dI {k : Int} {v : PyData} {D : List (Int × PyData)} (h : D.lookup k = some v) : idxD (.dict (dI D)) (.int k) = some v := by
  show (if keyOk (.int k) = true ∧ kinds (.int k) (dI D) = true then lookD (.int k) (dI D) else none) = _
  rw [if_pos ⟨rfl, kinds_dI k D⟩, lookD_dI, h]
theorem put_dI {i : Nat} {k : Int} {v : PyData} {t t' : Tag} {D : List (Int × PyData)} {e : List (Option EV)} {sto : List SObj} {w : Val} (h1 : (frz ⟨t, .dat v⟩ ⟨e, sto⟩).env[i]? = some (some ⟨true, .dat (.dict (dI D))⟩)) (h2 : D.length < SL) :
    putS ⟨.slot i, w⟩ ⟨t', .dat (.int k)⟩ ⟨t, .dat v⟩ ⟨e, sto⟩ = some { frz ⟨t, .dat v⟩ ⟨e, sto⟩ with env := (frz ⟨t, .dat v⟩ ⟨e, sto⟩).env.set i (some ⟨true, .dat (.dict (dI (putI k v D)))⟩) } := by
  unfold putS
  simp only [h1]
  rw [if_pos ⟨rfl, kinds_dI k D, by simpa [dI] using h2⟩, putD_dI]
theorem rmv_at {i : Nat} {n : Int} {l m : List Int} {e : List (Option EV)} {sto : List SObj} (h1 : e[i]? = some (some ⟨true, .dat (.list (l.map .int))⟩)) (h2 : n ∈ l) :
    rmvS ⟨.slot i, .dat (.list (m.map .int))⟩ n ⟨e, sto⟩ = some ⟨e.set i (some ⟨true, .dat (.list ((l.erase n).map .int))⟩), sto⟩ := by
  unfold rmvS lstOf
  simp only [h1, intsOf_map]
  rw [if_pos h2]
  rfl
theorem ne_nil (l : List Int) : cmpA .NotEq (.list (l.map .int)) (.list []) = some (!decide (l = [])) := ne_ilL l []
theorem eq_nil (l : List Int) : cmpA .Eq (.list (l.map .int)) (.list []) = some (decide (l = [])) := eq_ilL l []
theorem in_lk (a : Int) (p : Int × Int) : cmpA .In (.int a) (lk p) = some (decide (a = p.1 ∨ a = p.2)) := by
  have := in_il a [p.1, p.2]
  rw [c_in]
  simpa [il, lk] using this
theorem lk_idx0 (p : Int × Int) : idxD (lk p) (.int 0) = some (.int p.1) := by simp [lk]
theorem lk_idx1 (p : Int × Int) : idxD (lk p) (.int 1) = some (.int p.2) := by simp [lk]
theorem lk_sum (p : Int × Int) : bD .sum [lk p] = some (.int (p.1 + p.2)) := by
  show (intsOf [.int p.1, .int p.2]).map (fun ns => PyData.int ns.sum) = _
  simp [intsOf]
theorem at_lks {ls : List (Int × Int)} {i : Int} (h0 : 0 ≤ i) (h1 : i < ls.length) : ∃ p, p ∈ ls ∧ ls[i.toNat]? = some p ∧ atI (ls.map lk) i = some (lk p) := by
  have e : ls[i.toNat]? = some (ls[i.toNat]'(by omega)) := List.getElem?_eq_getElem (by omega)
  exact ⟨_, List.getElem_mem _, e, at_pos h0 (by rw [List.getElem?_map, e]; rfl)⟩
theorem at_ints {l : List Int} {i : Int} (h0 : 0 ≤ i) (h1 : i < l.length) : ∃ a, a ∈ l ∧ l[i.toNat]? = some a ∧ atI (l.map PyData.int) i = some (.int a) := by
  have e : l[i.toNat]? = some (l[i.toNat]'(by omega)) := List.getElem?_eq_getElem (by omega)
  exact ⟨_, List.getElem_mem _, e, at_pos h0 (by rw [List.getElem?_map, e]; rfl)⟩

/-! ### a drawn turn -/
def B_turnA : ISs := (.cons (.ife (.cmp .Eq (.call "_law_pick" (.cons (.var 0) (.cons (.int 3) .nil))) (.int 0)) (.cons (.ret (.bcl .tuple (.cons (.comp (.call "_law_pick" (.cons (.var 0) (.cons (.int 2) .nil))) (.nm 6) (.ex (.idx (.var 1) (.int 1))) .no [6]) .nil))) .nil) .nil) (.cons (.par [2, 3, 4] (.cons (.call "_law_mixed" (.cons (.var 0) (.cons (.lrg false (.rg1 (.bcl .len (.cons (.idx (.var 1) (.int 1)) .nil)))) .nil))) (.cons (.dnew false) (.cons (.int 0) .nil)))) (.cons (.whl (.cmp .NotEq (.var 2) (.lst .nil)) (.cons (.asg 5 (.comp (.var 7) (.nm 7) (.ex (.var 2)) (.so (.cmp .In (.var 4) (.idx (.idx (.var 1) (.int 1)) (.var 7)))) [7])) (.cons (.ife (.cmp .Eq (.var 5) (.lst .nil)) (.cons (.asg 4 (.idx (.idx (.idx (.var 1) (.int 1)) (.idx (.var 2) (.int 0))) (.call "_law_pick" (.cons (.var 0) (.cons (.int 2) .nil))))) .nil) (.cons (.exp (.rmv (.var 2) (.idx (.var 5) (.int 0)))) (.cons (.put (.var 3) (.idx (.var 5) (.int 0)) (.bcl .int (.cons (.cmp .NotEq (.idx (.idx (.idx (.var 1) (.int 1)) (.idx (.var 5) (.int 0))) (.int 0)) (.var 4)) .nil))) (.cons (.asg 4 (.bin .Sub (.bcl .sum (.cons (.idx (.idx (.var 1) (.int 1)) (.idx (.var 5) (.int 0))) .nil)) (.var 4))) .nil)))) .nil))) (.cons (.ret (.bcl .tuple (.cons (.comp (.idx (.var 3) (.var 7)) (.nm 7) (.rg1 (.bcl .len (.cons (.idx (.var 1) (.int 1)) .nil))) .no [7]) .nil))) .nil))))
def TurnOk (m : Nat) (ts : List Int) : Prop := ts.length = m ∧ ∀ t ∈ ts, t = 0 ∨ t = 1
def p_turnA : Pre := fun args sto Q => ∃ n ls, args = [.ref 1, .dat (netD n ls)] ∧ ls.length ≤ 1000 ∧ SrcOk sto ∧ ∀ ts sto', SrcOk sto' → TurnOk ls.length ts → Q ⟨false, .dat (il ts)⟩ sto'
def E_turn (n : Int) (ls : List (Int × Int)) (L : List Int) (D : List (Int × PyData)) (here : Int) (c5 : Option EV) : List (Option EV) :=
  [some ⟨false, .ref 1⟩, some ⟨false, .dat (netD n ls)⟩, some ⟨true, .dat (.list (L.map .int))⟩, some ⟨true, .dat (.dict (dI D))⟩, some ⟨false, .dat (.int here)⟩, c5, none, none]
structure TInv (ls : List (Int × Int)) (L : List Int) (D : List (Int × PyData)) : Prop where
  nd : L.Nodup
  mem : ∀ i ∈ L, 0 ≤ i ∧ i < ls.length
  len : D.length + L.length ≤ ls.length
  all : ∀ i : Nat, i < ls.length → (i : Int) ∈ L ∨ D.lookup (i : Int) = some (.int 0) ∨ D.lookup (i : Int) = some (.int 1)
/-- a link of those left that here is at -/
def touch (ls : List (Int × Int)) (here : Int) (i : Int) : Bool := match ls[i.toNat]? with
  | some p => decide (here = p.1 ∨ here = p.2)
  | none => false
theorem turnA_end {S : SpecK} {n here : Int} {ls : List (Int × Int)} {D : List (Int × PyData)} {c5 : Option EV} {sto : List SObj} {Q : EV → List SObj → Prop} (hl : ls.length ≤ 1000) (hi : TInv ls [] D) (hs : SrcOk sto)
    (h : ∀ ts, TurnOk ls.length ts → Q ⟨false, .dat (il ts)⟩ sto) :
    wpSs S (.cons (.ret (.bcl .tuple (.cons (.comp (.idx (.var 3) (.var 7)) (.nm 7) (.rg1 (.bcl .len (.cons (.idx (.var 1) (.int 1)) .nil))) .no [7]) .nil))) .nil) (ends Q) ⟨E_turn n ls [] D here c5, sto⟩ := by
  refine step fun K hK => ?_
  simp [E_turn, net1]
  refine ⟨⟨by omega, by omega⟩, ?_⟩
  rw [show (0 : Int) = ((0 : Nat) : Int) from rfl, rngN]
  refine comp_inv (fun r acc st' => st' = ⟨E_turn n ls [] D here c5, sto⟩ ∧ ∃ ts : List Int, acc = ts.map PyData.int ∧ (∀ t ∈ ts, t = 0 ∨ t = 1) ∧ ts.length + r.length = ls.length ∧ ∀ i ∈ r, i < ls.length) ?_ ?_ ?_ ?_ _ [] _ ⟨rfl, [], rfl, by simp, by simp, fun k hk => ?_⟩
  · rintro r acc st' _
    simp
  · rintro k r acc st' ⟨_, ts, rfl, _, h1, _⟩
    simp [SL_eq] at h1 ⊢
    omega
  · rintro k r acc st' K3 ⟨rfl, ts, rfl, h1, h2, h3⟩ hK3
    refine ⟨_, rfl, ?_⟩
    have hgo : ∀ t : Int, (t = 0 ∨ t = 1) → D.lookup (k : Int) = some (.int t) → wpC S .no (fun b st3 => if b then (wpX S (.idx (.var 3) (.var 7))).1 (fun o st4 => ∃ v, o.val = .dat v ∧ K3 (some v) { frz o st4 with env := wipeE [7] (frz o st4).env }) st3 else K3 none { st3 with env := wipeE [7] st3.env }) ⟨[some ⟨false, .ref 1⟩, some ⟨false, .dat (netD n ls)⟩, some ⟨true, .dat (.list [])⟩, some ⟨true, .dat (.dict (dI D))⟩, some ⟨false, .dat (.int here)⟩, c5, none, some ⟨false, .dat (.int k)⟩], sto⟩ := by
      intro t ht e
      simp [idx_dI e]
      refine hK3 _ _ ⟨rfl, ts ++ [t], ?_, ?_, ?_, ?_⟩
      · simp
      · intro x hx
        rcases List.mem_append.mp hx with hx | hx
        · exact h1 x hx
        · simp at hx; subst hx; exact ht
      · simp at h2 ⊢; omega
      · exact fun k hk => h3 k (by simp [hk])
    rcases hi.all k (h3 k (by simp)) with e | e | e
    · cases e
    · exact hgo 0 (.inl rfl) e
    · exact hgo 1 (.inr rfl) e
  · rintro acc st' ⟨rfl, ts, rfl, h1, h2, _⟩
    simp [E_turn]
    exact h ts ⟨by simpa using h2, h1⟩
  · simpa using hk
def tmeas (ls : List (Int × Int)) (here : Int) (L : List Int) : Nat := 2 * L.length + if L.any (touch ls here) then 0 else 1
def TW (n : Int) (ls : List (Int × Int)) (m : Nat) (st' : Stt) : Prop := ∃ L D here c5 sto, st' = ⟨E_turn n ls L D here c5, sto⟩ ∧ SrcOk sto ∧ TInv ls L D ∧ m = tmeas ls here L
theorem TInv.step {ls : List (Int × Int)} {L : List Int} {D : List (Int × PyData)} (h : TInv ls L D) {i v : Int} (hi : i ∈ L) (hv : v = 0 ∨ v = 1) : TInv ls (L.erase i) (putI i (.int v) D) := by
  refine ⟨h.nd.erase i, fun j hj => h.mem j (List.mem_of_mem_erase hj), ?_, fun j hj => ?_⟩
  · have h1 := len_putI i (.int v) D
    have h2 := List.length_erase_of_mem hi
    have h3 := List.length_pos_of_mem hi
    have h4 := h.len
    omega
  · rw [lookup_putI]
    by_cases e : (j : Int) = i
    · right
      rw [if_pos e]
      rcases hv with rfl | rfl
      · exact .inl rfl
      · exact .inr rfl
    · rw [if_neg e]
      rcases h.all j hj with h1 | h1
      · exact .inl ((List.mem_erase_of_ne e).mpr h1)
      · exact .inr h1
theorem g_turnA (S : SpecK) (d : DefI) (hb : d.body = B_turnA) (hN : d.N.length = 8) (hp : d.ps.length = 2) (hpick : Has S "_law_pick" p_pick) (hmix : Has S "_law_mixed" p_mixed) : Keeps1 S d p_turnA := by
  rintro args sto Q ⟨n, ls, rfl, hl, hs, h⟩
  refine ⟨hp.symm, ?_⟩
  rw [hb]
  unfold B_turnA
  have h0 : startE d.N [.ref 1, .dat (netD n ls)] = [some ⟨false, .ref 1⟩, some ⟨false, .dat (netD n ls)⟩, none, none, none, none, none, none] := by simp [startE, hN, List.replicate]
  rw [h0]
  refine step fun K hK => ?_
  simp
  refine hpick _ _ _ ⟨3, rfl, by omega, hs, fun v sto1 hs1 hv0 hv1 => ?_⟩
  simp
  by_cases hv : v = 0
  · refine .inr ⟨hv, step fun K2 hK2 => ?_⟩
    simp [net1]
    refine comp_inv (enc := lk) (fun r acc st' => ∃ sto, st' = ⟨[some ⟨false, .ref 1⟩, some ⟨false, .dat (netD n ls)⟩, none, none, none, none, none, none], sto⟩ ∧ SrcOk sto ∧ ∃ ts : List Int, acc = ts.map PyData.int ∧ (∀ t ∈ ts, t = 0 ∨ t = 1) ∧ ts.length + r.length = ls.length) ?_ ?_ ?_ ?_ _ [] _ ⟨_, rfl, hs1, [], rfl, by simp, by simp⟩
    · rintro r acc st' _ o ho
      simp at ho; subst ho; trivial
    · rintro k r acc st' ⟨_, _, _, ts, rfl, _, h1⟩
      simp [SL_eq] at h1 ⊢
      omega
    · rintro k r acc st' K3 ⟨sto, rfl, hs, ts, rfl, h1, h2⟩ hK3
      refine ⟨_, rfl, ?_⟩
      simp
      refine hpick _ _ _ ⟨2, rfl, by omega, hs, fun v sto1 hs1 hv0 hv1 => ?_⟩
      simp
      refine hK3 _ _ ⟨sto1, rfl, hs1, ts ++ [v], by simp, ?_, by simp at h2 ⊢; omega⟩
      intro x hx
      rcases List.mem_append.mp hx with hx | hx
      · exact h1 x hx
      · simp at hx; subst hx; omega
    · rintro acc st' ⟨sto, rfl, hs, ts, rfl, h1, h2⟩
      simp
      exact h ts _ hs ⟨by simpa using h2, h1⟩
  · refine .inl ⟨hv, ?_⟩
    subst hK
    refine step fun K hK => ?_
    simp [net1]
    refine ⟨by omega, hmix _ _ _ ⟨.list (rngD 0 ls.length), rngD 0 ls.length, rfl, rfl, ?_, hs1, fun rr sto2 hs2 hr => ?_⟩⟩
    · rw [rngD_eq]; simp; omega
    obtain ⟨L, rfl, hnd, hll, hlm, _⟩ := mix_rng (n := ls.length) (by simpa using hr)
    simp
    subst hK
    refine step fun K hK => ?_
    simp
    refine ⟨TW n ls, ⟨_, L, [], 0, none, sto2, rfl, hs2, ⟨hnd, hlm, by simp at hll; simp; omega, fun i hi => .inl ?_⟩, rfl⟩, ?_⟩
    · rename_i hp
      exact hp.mem_iff.mpr (rngI_mem.mpr ⟨by omega, by omega⟩)
    · rintro m st' ⟨L, D, here, c5, sto, rfl, hs, hi, rfl⟩
      simp [E_turn, ne_nil]
      by_cases hL : L = []
      · subst hL
        refine .inl ⟨rfl, ?_⟩
        subst hK
        exact turnA_end hl hi hs fun ts => h ts _ hs
      · refine .inr ⟨hL, step fun K2 hK2 => ?_⟩
        simp [net1]
        refine comp_filter (enc := PyData.int) (touch ls here) PyData.int (fun o ho => by simp at ho; subst ho; rfl) ?_ (fun i him K3 hK3 => ⟨_, rfl, ?_⟩) ?_
        · have := hi.len
          rw [SL_eq]; omega
        · obtain ⟨h0, h1⟩ := hi.mem i him
          obtain ⟨p, hp, e1, e2⟩ := at_lks h0 h1
          have e3 : touch ls here i = decide (here = p.1 ∨ here = p.2) := by unfold touch; rw [e1]
          rw [e3] at hK3
          simp [net1, e2, in_lk]
          by_cases hh : here = p.1 ∨ here = p.2
          · refine .inr ⟨hh, ?_⟩
            simpa [hh] using hK3
          · refine .inl ⟨by simpa using hh, ?_⟩
            simpa [hh] using hK3
        · simp
          subst hK2
          refine step fun K2 hK2 => ?_
          have hend : ∀ L' D' here' c5' sto', SrcOk sto' → TInv ls L' D' → tmeas ls here' L' < tmeas ls here L → K2 ⟨E_turn n ls L' D' here' c5', sto'⟩ := by
            intro L' D' here' c5' sto' h1 h2 h3
            subst hK2
            exact last ⟨_, h3, L', D', here', c5', sto', rfl, h1, h2, rfl⟩
          by_cases ht : L.any (touch ls here) = true
          · have htm : tmeas ls here L = 2 * L.length := by unfold tmeas; rw [if_pos ht]; rfl
            rw [htm] at hend
            cases hf : L.filter (touch ls here) with
            | nil =>
              rw [List.filter_eq_nil_iff] at hf
              rw [List.any_eq_true] at ht
              obtain ⟨x, hx, hx2⟩ := ht
              exact absurd hx2 (hf x hx)
            | cons i rest =>
            have him : i ∈ L := (List.mem_filter.mp (by rw [hf]; exact List.mem_cons_self)).1
            obtain ⟨h0, h1⟩ := hi.mem i him
            obtain ⟨p, hp, e1, e2⟩ := at_lks h0 h1
            simp [eq_nil (i :: rest), show cmpA .Eq (.list (.int i :: rest.map PyData.int)) (.list []) = some false from eq_nil (i :: rest)]
            refine step fun K3 hK3 => ?_
            simp
            refine ⟨_, rmv_at (l := L) (m := L) rfl him, ?_⟩
            subst hK3
            refine step fun K3 hK3 => ?_
            have hD : D.length < SL := by have := hi.len; rw [SL_eq]; omega
            have hput : ∀ b : Bool, K3 ⟨E_turn n ls (L.erase i) (putI i (.int (if b then 1 else 0)) D) here (some ⟨true, .dat (.list ((i :: rest).map .int))⟩), sto⟩ := by
              intro b
              subst hK3
              refine step fun K3 hK3 => ?_
              simp [E_turn, net1, e2, lk_sum]
              subst hK3
              refine last ?_
              refine hend (L.erase i) _ _ _ sto hs (hi.step him (by cases b <;> simp)) ?_
              have h2 := List.length_erase_of_mem him
              have h3 := List.length_pos_of_mem him
              unfold tmeas
              rw [h2]
              split <;> omega
            simp [net1, e2, lk_idx0]
            by_cases hh : p.1 = here
            · exact .inl ⟨hh, _, put_dI rfl hD, hput false⟩
            · exact .inr ⟨hh, _, put_dI rfl hD, hput true⟩
          · have htm : tmeas ls here L = 2 * L.length + 1 := by unfold tmeas; rw [if_neg ht]
            rw [htm] at hend
            have hf : L.filter (touch ls here) = [] := by
              rw [List.filter_eq_nil_iff]
              intro x hx hx2
              exact ht (List.any_eq_true.mpr ⟨x, hx, hx2⟩)
            rw [hf]
            simp [show cmpA .Eq (.list []) (.list []) = some true from eq_nil []]
            cases L with
            | nil => exact absurd rfl hL
            | cons i rest =>
            obtain ⟨h0, h1⟩ := hi.mem i (by simp)
            obtain ⟨p, hp, e1, e2⟩ := at_lks h0 h1
            refine step fun K3 hK3 => ?_
            simp [net1, e2]
            refine hpick _ _ _ ⟨2, rfl, by omega, hs, fun v sto1 hs1 hv0 hv1 => ?_⟩
            have hgo : ∀ h' : Int, (h' = p.1 ∨ h' = p.2) → K3 ⟨E_turn n ls (i :: rest) D h' (some ⟨true, .dat (.list [])⟩), sto1⟩ := by
              intro h' he
              subst hK3
              refine last (hend _ _ _ _ _ hs1 hi ?_)
              unfold tmeas
              have : (i :: rest).any (touch ls h') = true := by
                rw [List.any_cons]
                have : touch ls h' i = true := by unfold touch; rw [e1]; simpa using he
                rw [this]; rfl
              rw [if_pos this]
              omega
            rcases (show v = 0 ∨ v = 1 by omega) with rfl | rfl
            · simp [lk_idx0]
              exact hgo _ (.inl rfl)
            · simp [lk_idx1]
              exact hgo _ (.inr rfl)
end Ev
end

section
set_option Elab.async false
set_option linter.all false
set_option maxRecDepth 100000
/-! Ev31: defs that call themselves. -/
namespace Ev
open PySem PySem.Spec PyProof.Rows L2

/-- D: the defs; T: their promises, a def with several promises stands several times -/
theorem con_ofR {D : List DefI} {T : List (DefI × Pre)} (g : GoodL [] T) (hin : ∀ x ∈ T, x.1 ∈ D) (nd : (D.map fun x => x.nm).Nodup) : Con D (spT T) := by
  refine ⟨fun f args sto Q ⟨i, _, _, h, _⟩ => absurd h (by omega), fun k d hd args sto Q ⟨i, d', p, hi, e, hn, hp⟩ => ?_⟩
  have hd' : d' ∈ D := hin _ (List.mem_of_getElem? e)
  have : d' = d := by
    obtain ⟨i1, h1⟩ := List.mem_iff_getElem?.mp hd'
    obtain ⟨i2, h2⟩ := List.mem_iff_getElem?.mp hd
    have e1 : (D.map fun x => x.nm)[i1]? = some d'.nm := by rw [List.getElem?_map, h1]; rfl
    have e2 : (D.map fun x => x.nm)[i2]? = some d.nm := by rw [List.getElem?_map, h2]; rfl
    rw [hn] at e1
    obtain ⟨l1, q1⟩ := List.getElem?_eq_some_iff.mp e1
    obtain ⟨l2, q2⟩ := List.getElem?_eq_some_iff.mp e2
    have hij := (List.getElem_inj nd).mp (q1.trans q2.symm)
    subst hij
    rw [h1] at h2
    exact Option.some.inj h2
  subst this
  exact g.at_ e (spT T k) (fun j x hj hx args sto Q hp => ⟨j, x.1, x.2, by simp at hj; omega, by simpa using hx, rfl, hp⟩) _ _ _ hp
/-- a def's promises by a measure: those of less measure may be leant on -/
def lapsT (d : DefI) (p : Nat → Pre) (M : Nat) : List (DefI × Pre) := (List.range M).map fun m => (d, p m)
theorem GoodL.app : ∀ {r s b : List (DefI × Pre)}, GoodL b r → GoodL (b ++ r) s → GoodL b (r ++ s)
  | [], s, b, _, h => by simpa using h
  | (d, p) :: r, s, b, g, h => ⟨g.1, GoodL.app g.2 (by simpa using h)⟩
theorem good_laps {d : DefI} {p : Nat → Pre} : ∀ {M : Nat} {b : List (DefI × Pre)}, (∀ m, m < M → ∀ S, (∀ x ∈ b, Has S x.1.nm x.2) → (∀ m', m' < m → Has S d.nm (p m')) → Keeps1 S d (p m)) → GoodL b (lapsT d p M)
  | 0, b, _ => trivial
  | M + 1, b, h => by
    unfold lapsT
    rw [List.range_succ, List.map_append]
    refine GoodL.app (good_laps fun m hm => h m (by omega)) ⟨fun S hS => ?_, trivial⟩
    refine h M (by omega) S (fun x hx => hS x (List.mem_append_left _ hx)) fun m' hm' => ?_
    exact hS (d, p m') (List.mem_append_right _ (List.mem_map.mpr ⟨m', List.mem_range.mpr hm', rfl⟩))
theorem has_laps {S : SpecK} {d : DefI} {p : Nat → Pre} {M : Nat} {b : List (DefI × Pre)} (h : ∀ x ∈ b, Has S x.1.nm x.2) (hs : ∀ x ∈ lapsT d p M, x ∈ b) : ∀ m, m < M → Has S d.nm (p m) := fun m hm => h (d, p m) (hs _ (List.mem_map.mpr ⟨m, List.mem_range.mpr hm, rfl⟩))
end Ev
end

section
set_option Elab.async false
set_option linter.all false
set_option maxRecDepth 100000
/-! Ev32: drawn nets (any, trees, rings), a drawn member, all lots, cuts. -/
namespace Ev
open PySem PySem.Spec PyProof.Rows L2

/-! ### a drawn member -/
def B_of : ISs := (.cons (.ret (.idx (.var 1) (.call "_law_pick" (.cons (.var 0) (.cons (.bcl .len (.cons (.var 1) .nil)) .nil))))) .nil)
def p_of : Pre := fun args sto Q => ∃ ds : List PyData, args = [.ref 1, .dat (.list ds)] ∧ ds ≠ [] ∧ ds.length ≤ 100000 ∧ SrcOk sto ∧ ∀ d sto', SrcOk sto' → d ∈ ds → Q ⟨false, .dat d⟩ sto'
theorem g_of (S : SpecK) (d : DefI) (hb : d.body = B_of) (hN : d.N.length = 2) (hp : d.ps.length = 2) (hpick : Has S "_law_pick" p_pick) : Keeps1 S d p_of := by
  rintro args sto Q ⟨ds, rfl, h0, hl, hs, h⟩
  refine ⟨hp.symm, ?_⟩
  rw [hb]
  unfold B_of
  have e0 : startE d.N [.ref 1, .dat (.list ds)] = [some ⟨false, .ref 1⟩, some ⟨false, .dat (.list ds)⟩] := by simp [startE, hN, List.replicate]
  rw [e0]
  refine step fun K hK => ?_
  simp
  have hlp := List.length_pos_iff.mpr h0
  refine hpick _ _ _ ⟨ds.length, rfl, by omega, hs, fun v sto1 hs1 hv0 hv1 => ?_⟩
  simp
  have hv : v.toNat < ds.length := by omega
  exact ⟨_, ⟨_, at_pos hv0 (List.getElem?_eq_getElem hv), rfl⟩, h _ _ hs1 (List.getElem_mem _)⟩

/-! ### drawn nets -/
theorem in_two (a b c : Int) : inD (.int a) (.tuple [.int b, .int c]) = some (decide (a = b) || decide (a = c)) := by
  have := in_il a [b, c]
  rw [show il [b, c] = .tuple [.int b, .int c] from rfl] at this
  rw [this]
  simp
def PairOk (n : Int) (p : Int × Int) : Prop := (0 ≤ p.1 ∧ p.1 < n) ∧ 0 ≤ p.2 ∧ p.2 < n
def E_B (least most links n way : Int) (fs : List (Int × Int)) (ord : List Int) (c8 c9 c10 : Option EV) : List (Option EV) :=
  [some ⟨false, .ref 1⟩, some ⟨false, .dat (.int least)⟩, some ⟨false, .dat (.int most)⟩, some ⟨false, .dat (.int links)⟩, some ⟨false, .dat (.int n)⟩, some ⟨false, .dat (.int way)⟩, some ⟨true, .dat (.list (fs.map lk))⟩, some ⟨true, .dat (.list (ord.map .int))⟩, c8, c9, c10, none]
def B_netB_1 : ISs := (.cons (.unp (.tup [(.nm 9), (.nm 10)]) (.slc (.call "_law_any_order" (.cons (.var 0) (.cons (.lrg false (.rg1 (.var 4))) .nil))) .no (.so (.int 2)))) (.cons (.asg 6 (.bin .Add (.var 6) (.lst (.cons (.tup (.cons (.var 9) (.cons (.var 10) .nil))) .nil)))) .nil))
def B_netB : ISs := (.cons (.par [4, 5, 6] (.cons (.bin .Add (.var 1) (.call "_law_pick" (.cons (.var 0) (.cons (.bin .Add (.bin .Sub (.var 2) (.var 1)) (.int 1)) .nil)))) (.cons (.call "_law_pick" (.cons (.var 0) (.cons (.int 4) .nil))) (.cons (.lst .nil) .nil)))) (.cons (.asg 7 (.call "_law_any_order" (.cons (.var 0) (.cons (.lrg false (.rg1 (.var 4))) .nil)))) (.cons (.ife (.bop true (.cons (.cmp .In (.var 5) (.tup (.cons (.int 1) (.cons (.int 3) .nil)))) (.cons (.cmp .LtE (.var 4) (.var 3)) .nil))) (.cons (.asg 6 (.comp (.tup (.cons (.idx (.var 7) (.call "_law_pick" (.cons (.var 0) (.cons (.var 11) .nil)))) (.cons (.idx (.var 7) (.var 11)) .nil))) (.nm 11) (.rg2 (.int 1) (.var 4)) .no [11])) .nil) .nil) (.cons (.ife (.bop true (.cons (.cmp .In (.var 5) (.tup (.cons (.int 2) (.cons (.int 3) .nil)))) (.cons (.cmp .LtE (.var 4) (.var 3)) .nil))) (.cons (.asg 6 (.comp (.tup (.cons (.idx (.var 7) (.bin .Sub (.var 11) (.int 1))) (.cons (.idx (.var 7) (.var 11)) .nil))) (.nm 11) (.rg1 (.var 4)) .no [11])) .nil) .nil) (.cons (.for_ (.nm 8) (.rg1 (.call "_law_pick" (.cons (.var 0) (.cons (.bcl .max (.cons (.int 1) (.cons (.bin .Add (.bin .Sub (.var 3) (.bcl .len (.cons (.var 6) .nil))) (.int 1)) .nil))) .nil)))) B_netB_1) (.cons (.ret (.tup (.cons (.var 4) (.cons (.bcl .tuple (.cons (.bcl .sorted (.cons (.comp (.tup (.cons (.bcl .min (.cons (.var 9) (.cons (.var 10) .nil))) (.cons (.bcl .max (.cons (.var 9) (.cons (.var 10) .nil))) .nil))) (.tup [(.nm 9), (.nm 10)]) (.ex (.var 6)) (.so (.cmp .NotEq (.var 9) (.var 10))) [9, 10]) .nil)) .nil)) .nil)))) .nil))))))
def p_netB : Pre := fun args sto Q => ∃ least most links : Int, args = [.ref 1, .dat (.int least), .dat (.int most), .dat (.int links)] ∧ 2 ≤ least ∧ least ≤ most ∧ most ≤ 10 ∧ 0 ≤ links ∧ links ≤ 1000 ∧ SrcOk sto ∧
  ∀ n ls sto', SrcOk sto' → least ≤ n → n ≤ most → ls.length ≤ 2000 → NetOk n ls → Q ⟨false, .dat (netD n ls)⟩ sto'
section
variable {S : SpecK} {E : EndsP} {least most links n way : Int} {fs : List (Int × Int)} {ord : List Int} {c8 c9 c10 : Option EV} {sto : List SObj} {K : Stt → Prop}
theorem netB_3 (hpick : Has S "_law_pick" p_pick) (hs : SrcOk sto) (hn : 2 ≤ n ∧ n ≤ 10) (hoo : ∀ i ∈ ord, 0 ≤ i ∧ i < n) (hol : ord.length = n.toNat) (hfl : fs.length ≤ 100) (hfo : ∀ p ∈ fs, PairOk n p)
    (h : ∀ fs sto', SrcOk sto' → fs.length ≤ 100 → (∀ p ∈ fs, PairOk n p) → K ⟨E_B least most links n way fs ord c8 c9 c10, sto'⟩) :
    wpS S (.ife (.bop true (.cons (.cmp .In (.var 5) (.tup (.cons (.int 1) (.cons (.int 3) .nil)))) (.cons (.cmp .LtE (.var 4) (.var 3)) .nil))) (.cons (.asg 6 (.comp (.tup (.cons (.idx (.var 7) (.call "_law_pick" (.cons (.var 0) (.cons (.var 11) .nil)))) (.cons (.idx (.var 7) (.var 11)) .nil))) (.nm 11) (.rg2 (.int 1) (.var 4)) .no [11])) .nil) .nil) { E with nx := K } ⟨E_B least most links n way fs ord c8 c9 c10, sto⟩ := by
  have hin : ∀ k : Nat, k < n.toNat → ∃ a, atI (ord.map PyData.int) (k : Int) = some (.int a) ∧ 0 ≤ a ∧ a < n := by
    intro k hk
    have hk' : k < ord.length := by omega
    exact ⟨ord[k], at_nat (by rw [List.getElem?_map, List.getElem?_eq_getElem hk']; rfl), hoo _ (List.getElem_mem _)⟩
  generalize hcb : (IE.comp _ _ _ _ _) = cb
  simp [E_B, SL_eq, c_in, in_two]
  by_cases hw : way = 1 ∨ way = 3
  · refine .inr ⟨hw, ?_⟩
    by_cases hnl : n ≤ links
    · refine .inr ⟨hnl, step fun K2 hK2 => ?_⟩
      subst hcb
      simp
      refine ⟨⟨by omega, by omega⟩, ⟨by omega, by omega⟩, ?_⟩
      change wpComp _ _ _ (rngD ((1 : Nat) : Int) _) _ _
      rw [rngN]
      refine comp_inv (fun r acc st => ∃ sto fs', st = ⟨E_B least most links n way fs ord c8 c9 c10, sto⟩ ∧ SrcOk sto ∧ acc = fs'.map lk ∧ (∀ p ∈ fs', PairOk n p) ∧ fs'.length + r.length ≤ 100 ∧ ∀ k ∈ r, 1 ≤ k ∧ k < n.toNat) ?_ ?_ ?_ ?_ _ [] _ ⟨sto, [], rfl, hs, rfl, (fun p hp => by cases hp), (by simp; omega), fun k hk => ?_⟩
      · rintro r acc st _
        simp
      · rintro k r acc st ⟨sto, fs', rfl, _, rfl, _, h1, _⟩
        simp [SL_eq] at h1 ⊢
        omega
      · rintro k r acc st K3 ⟨sto, fs', rfl, hs, rfl, h1, h2, h3⟩ hK3
        have hk := h3 k (by simp)
        obtain ⟨b, eb, hb⟩ := hin k hk.2
        refine ⟨_, rfl, ?_⟩
        simp [E_B, eb, SL_eq]
        refine hpick _ _ _ ⟨k, rfl, by omega, hs, fun v sto1 hs1 hv0 hv1 => ?_⟩
        obtain ⟨a, ea, ha⟩ := hin v.toNat (by omega)
        rw [Int.toNat_of_nonneg hv0] at ea
        simp [ea]
        refine hK3 _ _ ⟨sto1, fs' ++ [(a, b)], rfl, hs1, by simp [lk], ?_, by simp at h2 ⊢; omega, fun k hk => h3 k (by simp [hk])⟩
        intro p hp
        rcases List.mem_append.mp hp with hp | hp
        · exact h1 p hp
        · simp at hp; subst hp; exact ⟨ha, hb⟩
      · rintro acc st ⟨sto, fs', rfl, hs, rfl, h1, h2, _⟩
        simp [E_B]
        subst hK2
        refine last ?_
        exact h fs' sto hs (by simpa using h2) h1
      · simp at hk
        omega
    · exact .inl ⟨by omega, h fs sto hs hfl hfo⟩
  · refine .inl ⟨by omega, h fs sto hs hfl hfo⟩
theorem netB_4 (hs : SrcOk sto) (hn : 2 ≤ n ∧ n ≤ 10) (hnd : ord.Nodup) (hoo : ∀ i ∈ ord, 0 ≤ i ∧ i < n) (hol : ord.length = n.toNat) (hfl : fs.length ≤ 100) (hfo : ∀ p ∈ fs, PairOk n p)
    (h : ∀ fs, fs.length ≤ 100 → (∀ p ∈ fs, PairOk n p) → K ⟨E_B least most links n way fs ord c8 c9 c10, sto⟩) :
    wpS S (.ife (.bop true (.cons (.cmp .In (.var 5) (.tup (.cons (.int 2) (.cons (.int 3) .nil)))) (.cons (.cmp .LtE (.var 4) (.var 3)) .nil))) (.cons (.asg 6 (.comp (.tup (.cons (.idx (.var 7) (.bin .Sub (.var 11) (.int 1))) (.cons (.idx (.var 7) (.var 11)) .nil))) (.nm 11) (.rg1 (.var 4)) .no [11])) .nil) .nil) { E with nx := K } ⟨E_B least most links n way fs ord c8 c9 c10, sto⟩ := by
  generalize hcb : (IE.comp _ _ _ _ _) = cb
  simp [E_B, SL_eq, c_in, in_two]
  by_cases hw : way = 2 ∨ way = 3
  · refine .inr ⟨hw, ?_⟩
    by_cases hnl : n ≤ links
    · refine .inr ⟨hnl, step fun K2 hK2 => ?_⟩
      subst hcb
      simp
      refine ⟨⟨by omega, by omega⟩, ?_⟩
      change wpComp _ _ _ (rngD ((0 : Nat) : Int) _) _ _
      rw [rngN]
      refine comp_inv (fun r acc st => st = ⟨E_B least most links n way fs ord c8 c9 c10, sto⟩ ∧ ∃ fs', acc = fs'.map lk ∧ (∀ p ∈ fs', PairOk n p) ∧ fs'.length + r.length ≤ 100 ∧ ∀ k ∈ r, k < n.toNat) ?_ ?_ ?_ ?_ _ [] _ ⟨rfl, [], rfl, (fun p hp => by cases hp), (by simp; omega), fun k hk => ?_⟩
      · rintro r acc st _
        simp
      · rintro k r acc st ⟨rfl, fs', rfl, _, h1, _⟩
        simp [SL_eq] at h1 ⊢
        omega
      · rintro k r acc st K3 ⟨rfl, fs', rfl, h1, h2, h3⟩ hK3
        have hk := h3 k (by simp)
        obtain ⟨a, b, ea, eb, hab, ha, hb⟩ := ring_at hnd hol (by omega) hk
        refine ⟨_, rfl, ?_⟩
        simp [E_B, ea, eb, SL_eq]
        refine hK3 _ _ ⟨rfl, fs' ++ [(a, b)], by simp [lk], ?_, by simp at h2 ⊢; omega, fun k hk => h3 k (by simp [hk])⟩
        intro p hp
        rcases List.mem_append.mp hp with hp | hp
        · exact h1 p hp
        · simp at hp; subst hp; exact ⟨hoo a ha, hoo b hb⟩
      · rintro acc st ⟨rfl, fs', rfl, h1, h2, _⟩
        simp [E_B]
        subst hK2
        refine last ?_
        exact h fs' (by simpa using h2) h1
      · simp at hk
        omega
    · exact .inl ⟨by omega, h fs hfl hfo⟩
  · refine .inl ⟨by omega, h fs hfl hfo⟩
theorem netB_5 (hpick : Has S "_law_pick" p_pick) (hmix : Has S "_law_any_order" p_mixed) (hs : SrcOk sto) (hn : 2 ≤ n ∧ n ≤ 10) (hlk : 0 ≤ links ∧ links ≤ 1000) (hfl : fs.length ≤ 100) (hfo : ∀ p ∈ fs, PairOk n p)
    (h : ∀ fs c8 c9 c10 sto, SrcOk sto → fs.length ≤ 2000 → (∀ p ∈ fs, PairOk n p) → K ⟨E_B least most links n way fs ord c8 c9 c10, sto⟩) :
    wpS S (.for_ (.nm 8) (.rg1 (.call "_law_pick" (.cons (.var 0) (.cons (.bcl .max (.cons (.int 1) (.cons (.bin .Add (.bin .Sub (.var 3) (.bcl .len (.cons (.var 6) .nil))) (.int 1)) .nil))) .nil)))) B_netB_1) { E with nx := K } ⟨E_B least most links n way fs ord c8 c9 c10, sto⟩ := by
  generalize hbb : B_netB_1 = bb
  simp [E_B]
  generalize hmx : (if 1 < links - (fs.length : Int) + 1 then links - (fs.length : Int) + 1 else 1) = mx
  have hmx1 : 1 ≤ mx ∧ mx ≤ 1001 := by
    subst hmx
    split <;> omega
  refine hpick _ _ _ ⟨mx, rfl, by omega, hs, fun m sto1 hs1 hm0 hm1 => ⟨_, rfl, ⟨by omega, by omega⟩, ?_⟩⟩
  rw [rngI_eq]
  refine loop_inv (fun r s => ∃ fs c8 c9 c10 sto, s = ⟨E_B least most links n way fs ord c8 c9 c10, sto⟩ ∧ SrcOk sto ∧ fs.length + r.length ≤ 2000 ∧ (∀ p ∈ fs, PairOk n p)) ?_ ?_ (rngI m) _ ⟨fs, c8, c9, c10, sto1, rfl, hs1, by rw [rngI_len]; omega, hfo⟩
  · rintro x r s K' ⟨fs, c8, c9, c10, sto, rfl, hs, hl, hf⟩ hK'
    subst hbb
    refine ⟨_, rfl, step fun K2 hK2 => ?_⟩
    simp [E_B]
    refine ⟨⟨by omega, by omega⟩, hmix _ _ _ ⟨.list (rngD 0 n.toNat), rngD 0 n.toNat, rfl, rfl, by rw [rngI_eq, List.length_map, rngI_len]; omega, hs, fun rr sto1 hs1 hr => ?_⟩⟩
    obtain ⟨l, rfl, hnd, hll, hlm, _⟩ := mix_rng hr
    match l, hnd, hll, hlm with
    | [], _, hll, _ => simp at hll; omega
    | [_], _, hll, _ => simp at hll; omega
    | a :: b :: l, hnd, hll, hlm =>
    simp [slc_to]
    subst hK2
    have ha := hlm a (by simp)
    have hb := hlm b (by simp)
    have hl' : fs.length + (r.length + 1) ≤ 2000 := hl
    refine step fun K2 hK2 => ?_
    simp [SL_eq]
    refine ⟨_, n_addL (by simp [SL_eq]; omega), ?_⟩
    simp
    subst hK2
    refine last ?_
    refine hK' _ ⟨fs ++ [(a, b)], some ⟨false, .dat (.int x)⟩, some ⟨false, .dat (.int a)⟩, some ⟨false, .dat (.int b)⟩, sto1, ?_, hs1, by simp; omega, ?_⟩
    · simp [E_B, lk]
    · intro p hp
      rcases List.mem_append.mp hp with hp | hp
      · exact hf p hp
      · simp at hp; subst hp; exact ⟨ha, hb⟩
  · rintro s ⟨fs, c8, c9, c10, sto, rfl, hs, hl, hf⟩
    exact h fs c8 c9 c10 sto hs (by simpa using hl) hf
theorem netB_6 {Q : EV → List SObj → Prop} (hn : 2 ≤ n ∧ n ≤ 10) (hfl : fs.length ≤ 2000) (hfo : ∀ p ∈ fs, PairOk n p)
    (h : ∀ ls, ls.length ≤ 2000 → NetOk n ls → Q ⟨false, .dat (netD n ls)⟩ sto) :
    wpSs S (.cons (.ret (.tup (.cons (.var 4) (.cons (.bcl .tuple (.cons (.bcl .sorted (.cons (.comp (.tup (.cons (.bcl .min (.cons (.var 9) (.cons (.var 10) .nil))) (.cons (.bcl .max (.cons (.var 9) (.cons (.var 10) .nil))) .nil))) (.tup [(.nm 9), (.nm 10)]) (.ex (.var 6)) (.so (.cmp .NotEq (.var 9) (.var 10))) [9, 10]) .nil)) .nil)) .nil)))) .nil) (ends Q) ⟨E_B least most links n way fs ord c8 c9 c10, sto⟩ := by
  refine step fun K hK => ?_
  simp [E_B]
  refine comp_filter (fun p : Int × Int => !decide (p.1 = p.2)) (fun p => lk (asc p.1 p.2)) (by simp) (by rw [SL_eq]; omega) (fun p _ K2 hK2 => ?_) ?_
  · obtain ⟨a, b⟩ := p
    refine ⟨_, rfl, ?_⟩
    simp [lk]
    have hmm := minmax_asc a b
    have e1 : (if b < a then b else a) = (asc a b).1 := hmm.1
    have e2 : (if a < b then b else a) = (asc a b).2 := hmm.2
    by_cases hab : a = b
    · refine .inl ⟨hab, ?_⟩
      simpa [hab] using hK2
    · refine .inr ⟨hab, ?_⟩
      simpa [hab, e1, e2, lk, SL_eq] using hK2
  · have e : ((fs.filter fun p => !decide (p.1 = p.2)).map fun p => lk (asc p.1 p.2)) = (((fs.filter fun p => !decide (p.1 = p.2)).map fun p => asc p.1 p.2)).map lk := by rw [List.map_map]; rfl
    rw [e]
    have hlen : ((fs.filter fun p => !decide (p.1 = p.2)).map fun p => asc p.1 p.2).length ≤ 2000 := by
      rw [List.length_map]; exact Nat.le_trans (List.length_filter_le _ _) hfl
    have hok : NetOk n ((fs.filter fun p => !decide (p.1 = p.2)).map fun p => asc p.1 p.2) := by
      intro p hp
      obtain ⟨q, hq, rfl⟩ := List.mem_map.mp hp
      rw [List.mem_filter] at hq
      obtain ⟨h1, h2⟩ := hfo q hq.1
      exact asc_ok h1 h2 (by simpa using hq.2)
    generalize ((fs.filter fun p => !decide (p.1 = p.2)).map fun p => asc p.1 p.2) = gs at hlen hok
    simp
    refine ⟨_, f_srtL (sortOk_lk (by omega)), ?_⟩
    rw [srt_map]
    simp [SL_eq]
    exact h _ (by rw [(srtBy_perm lk gs).length_eq]; exact hlen) fun p hp => hok p ((srtBy_perm lk gs).mem_iff.mp hp)
end
theorem g_netB (S : SpecK) (d : DefI) (hb : d.body = B_netB) (hN : d.N.length = 12) (hp : d.ps.length = 4) (hpick : Has S "_law_pick" p_pick) (hmix : Has S "_law_any_order" p_mixed) : Keeps1 S d p_netB := by
  rintro args sto Q ⟨least, most, links, rfl, h2, hlm, hm, hk0, hk1, hs, h⟩
  refine ⟨hp.symm, ?_⟩
  rw [hb]
  unfold B_netB
  have h0 : startE d.N [.ref 1, .dat (.int least), .dat (.int most), .dat (.int links)] = [some ⟨false, .ref 1⟩, some ⟨false, .dat (.int least)⟩, some ⟨false, .dat (.int most)⟩, some ⟨false, .dat (.int links)⟩, none, none, none, none, none, none, none, none] := by simp [startE, hN, List.replicate]
  rw [h0]
  refine step fun K hK => ?_
  simp
  refine hpick _ _ _ ⟨most - least + 1, rfl, by omega, hs, fun v sto1 hs1' hv0 hv1 => ?_⟩
  simp
  refine hpick _ _ _ ⟨4, rfl, by omega, hs1', fun way sto2 hs2' hw0 hw1 => ?_⟩
  simp [SL_eq]
  have hn2 : least ≤ least + v := by omega
  have hn3 : least + v ≤ most := by omega
  generalize least + v = n at hn2 hn3
  subst hK
  refine step fun K hK => ?_
  simp
  refine ⟨⟨by omega, by omega⟩, hmix _ _ _ ⟨.list (rngD 0 n.toNat), rngD 0 n.toNat, rfl, rfl, by rw [rngI_eq, List.length_map, rngI_len]; omega, hs2', fun rr sto3 hs3 hr => ?_⟩⟩
  obtain ⟨ord, rfl, hnd, hll, hlo, _⟩ := mix_rng hr
  simp
  subst hK
  refine step fun K hK => ?_
  change wpS S _ _ ⟨E_B least most links n way [] ord none none none, sto3⟩
  refine netB_3 hpick hs3 ⟨by omega, by omega⟩ hlo hll (by simp) (fun p hp => by cases hp) fun fs sto4 hs4 hfl hfo => ?_
  subst hK
  refine step fun K hK => ?_
  refine netB_4 hs4 ⟨by omega, by omega⟩ hnd hlo hll hfl hfo fun fs hfl hfo => ?_
  subst hK
  refine step fun K hK => ?_
  refine netB_5 hpick hmix hs4 ⟨by omega, by omega⟩ ⟨hk0, hk1⟩ hfl hfo fun fs c8 c9 c10 sto5 hs5 hfl hfo => ?_
  subst hK
  exact netB_6 ⟨by omega, by omega⟩ hfl hfo fun ls hl hls => h n ls sto5 hs5 hn2 hn3 hl hls
end Ev
end

section
set_option Elab.async false
set_option linter.all false
set_option maxRecDepth 100000
/-! Ev33: all lots of stations, cuts, lacks. -/
namespace Ev
open PySem PySem.Spec PyProof.Rows L2

theorem grow_head : ∀ (r : List Int) (f : List (List Int)), (∀ l ∈ f, l ≠ []) → ∃ g, grow r ([] :: f) = [] :: g ∧ ∀ l ∈ g, l ≠ []
  | [], f, h => ⟨f, rfl, h⟩
  | one :: r, f, h => by
    unfold grow
    have e : ([] :: f) ++ ([] :: f).map (· ++ [one]) = [] :: (f ++ ([one] :: f.map (· ++ [one]))) := by simp
    rw [e]
    refine grow_head r _ fun l hl => ?_
    rcases List.mem_append.mp hl with hl | hl
    · exact h l hl
    · rcases List.mem_cons.mp hl with rfl | hl
      · simp
      · obtain ⟨y, _, rfl⟩ := List.mem_map.mp hl
        simp
theorem grow_mem : ∀ (r : List Int) (found : List (List Int)) (l : List Int), l ∈ grow r found → ∃ l0 ∈ found, ∀ i ∈ l, i ∈ l0 ∨ i ∈ r
  | [], found, l, h => ⟨l, h, fun i hi => .inl hi⟩
  | one :: r, found, l, h => by
    unfold grow at h
    obtain ⟨l0, h0, h1⟩ := grow_mem r _ l h
    rcases List.mem_append.mp h0 with h0 | h0
    · exact ⟨l0, h0, fun i hi => (h1 i hi).imp id fun z => List.mem_cons_of_mem _ z⟩
    · obtain ⟨y, hy, rfl⟩ := List.mem_map.mp h0
      refine ⟨y, hy, fun i hi => ?_⟩
      rcases h1 i hi with z | z
      · rcases List.mem_append.mp z with z | z
        · exact .inl z
        · right; simp at z; rw [z]; simp
      · exact .inr (List.mem_cons_of_mem _ z)
/-- all lots but () -/
def lotsA (n : Int) : List (List Int) := srtBy il ((grow (rngI n) [[]]).drop 1)
theorem lotsA_mem {n : Int} {l : List Int} (h : l ∈ lotsA n) : l ≠ [] ∧ ∀ i ∈ l, 0 ≤ i ∧ i < n := by
  have h := (srtBy_perm il _).mem_iff.mp h
  obtain ⟨g, hg, hne⟩ := grow_head (rngI n) [] (fun l hl => by cases hl)
  have hl : l ∈ grow (rngI n) [[]] := List.mem_of_mem_drop h
  rw [hg] at h
  refine ⟨hne l (by simpa using h), fun i hi => ?_⟩
  obtain ⟨l0, h0, h1⟩ := grow_mem _ _ _ hl
  simp at h0
  subst h0
  rcases h1 i hi with z | z
  · cases z
  · exact rngI_mem.mp z
theorem lotsA_len {n : Int} (h : n ≤ 10) : (lotsA n).length ≤ 1024 := by
  unfold lotsA
  rw [(srtBy_perm il _).length_eq, List.length_drop, grow_len, rngI_len]
  have h2 : 2 ^ n.toNat ≤ 2 ^ 10 := Nat.pow_le_pow_right (by decide) (by omega)
  simp
  omega
theorem lotsA_short {n : Int} {l : List Int} (h : l ∈ lotsA n) : l.length ≤ n.toNat := by
  have h := (srtBy_perm il _).mem_iff.mp h
  have := grow_short (rngI n) [[]] 0 (by simp) l (List.mem_of_mem_drop h)
  rw [rngI_len] at this
  omega
def B_lotsA (elt : IE) : ISs := (.cons (.asg 1 (.lst (.cons (.tup .nil) .nil))) (.cons (.for_ (.nm 2) (.rg1 (.var 0)) (.cons (.asg 1 (.bin .Add (.var 1) (.comp elt (.nm 3) (.ex (.var 1)) .no [3]))) .nil)) (.cons (.ret (.bcl .sorted (.cons (.slc (.var 1) (.so (.int 1)) .no) .nil))) .nil)))
def p_lotsA : Pre := fun args sto Q => ∃ n : Int, args = [.dat (.int n)] ∧ 0 ≤ n ∧ n ≤ 10 ∧ Q ⟨true, .dat (.list ((lotsA n).map il))⟩ sto
theorem slc_from {ds : List PyData} {k : Int} (h : 0 ≤ k) : slcD (.list ds) (some k) none = some (.list (ds.drop k.toNat)) := by
  have := slc_fromT (ds := ds) h
  simp only [slcD, Option.some.injEq, PyData.tuple.injEq] at this ⊢
  rw [this]
theorem g_lotsA (S : SpecK) (d : DefI) {elt : IE} (helt : EltOk S elt 2 3) (hb : d.body = B_lotsA elt) (hN : d.N.length = 4) (hp : d.ps.length = 1) : Keeps1 S d p_lotsA := by
  rintro args sto Q ⟨n, rfl, h0, h1, h⟩
  refine ⟨hp.symm, ?_⟩
  rw [hb]
  unfold B_lotsA
  have e0 : startE d.N [.dat (.int n)] = [some ⟨false, .dat (.int n)⟩, none, none, none] := by simp [startE, hN, List.replicate]
  rw [e0]
  refine lots_loop (src := .rg1 (.var 0)) (st := rngI n) helt (fun Q b c hQ => ?_) (by rw [rngI_len]; omega) fun c => ?_
  · simp
    refine ⟨⟨by omega, by omega⟩, ?_⟩
    rw [rngI_eq]
    exact hQ _ fun s => rfl
  · refine step fun K hK => ?_
    simp [slc_from]
    obtain ⟨g, hg, hne⟩ := grow_head (rngI n) [] (fun l hl => by cases hl)
    have hd : (grow (rngI n) [[]]).tail.map il = ((grow (rngI n) [[]]).drop 1).map il := by rw [List.drop_one]
    have hl : ((grow (rngI n) [[]]).drop 1).length ≤ 1024 := by
      have := lotsA_len h1
      unfold lotsA at this
      rwa [(srtBy_perm il _).length_eq] at this
    have hn : ∀ l ∈ (grow (rngI n) [[]]).drop 1, l ≠ [] := by rw [hg]; simpa using hne
    rw [show (List.map il (grow (rngI n) [[]])).tail = ((grow (rngI n) [[]]).drop 1).map il by rw [List.drop_one, List.map_tail]]
    refine ⟨_, f_srtL (sortOk_il (xs := (grow (rngI n) [[]]).drop 1) hn (by omega)), ?_⟩
    rw [srt_map]
    simpa [lotsA] using h
def properL (n : Int) : List (List Int) := (lotsA n).filter fun l => decide ((l.length : Int) < n)
theorem properL_len {n : Int} (h : n ≤ 10) : (properL n).length ≤ 1024 := Nat.le_trans (List.length_filter_le _ _) (lotsA_len h)
theorem properL_mem {n : Int} {l : List Int} (h : l ∈ properL n) : l ≠ [] ∧ ∀ i ∈ l, 0 ≤ i ∧ i < n := lotsA_mem (List.mem_filter.mp h).1
theorem properL_short {n : Int} {l : List Int} (h : l ∈ properL n) : l.length ≤ n.toNat := lotsA_short (List.mem_filter.mp h).1
def p_properN : Pre := fun args sto Q => ∃ n ls, args = [.dat (netD n ls)] ∧ 0 ≤ n ∧ n ≤ 10 ∧ Q ⟨true, .dat (.list ((properL n).map il))⟩ sto
def p_proper : Pre := fun args sto Q => ∃ n : Int, args = [.dat (.int n)] ∧ 0 ≤ n ∧ n ≤ 10 ∧ Q ⟨true, .dat (.list ((properL n).map il))⟩ sto
def B_properN : ISs := (.cons (.ret (.comp (.var 1) (.nm 1) (.ex (.call "lots_of" (.cons (.idx (.var 0) (.int 0)) .nil))) (.so (.cmp .Lt (.bcl .len (.cons (.var 1) .nil)) (.idx (.var 0) (.int 0)))) [1])) .nil)
def B_proper : ISs := (.cons (.ret (.comp (.var 1) (.nm 1) (.ex (.call "_law_lots" (.cons (.var 0) .nil))) (.so (.cmp .Lt (.bcl .len (.cons (.var 1) .nil)) (.var 0))) [1])) .nil)
theorem f_len_il (l : List Int) : bD .len [il l] = some (.int l.length) := by simp [il, f_lenT]
theorem g_properN (S : SpecK) (d : DefI) (hb : d.body = B_properN) (hN : d.N.length = 2) (hp : d.ps.length = 1) (hl : Has S "lots_of" p_lotsA) : Keeps1 S d p_properN := by
  rintro args sto Q ⟨n, ls, rfl, h0, h1, h⟩
  refine ⟨hp.symm, ?_⟩
  rw [hb]
  unfold B_properN
  have e0 : startE d.N [.dat (netD n ls)] = [some ⟨false, .dat (netD n ls)⟩, none] := by simp [startE, hN, List.replicate]
  rw [e0]
  refine step fun K hK => ?_
  simp [net0]
  refine hl _ _ _ ⟨n, rfl, h0, h1, _, rfl, ?_⟩
  refine comp_filter (fun l : List Int => decide ((l.length : Int) < n)) il (fun o ho => by simp at ho; subst ho; trivial) (by rw [SL_eq]; have := lotsA_len h1; omega) (fun l _ K2 hK2 => ?_) ?_
  · refine ⟨_, rfl, ?_⟩
    simp [f_len_il, net0]
    by_cases h2 : (l.length : Int) < n
    · refine .inr ⟨h2, ?_⟩
      simpa [h2] using hK2
    · refine .inl ⟨by omega, ?_⟩
      simpa [h2] using hK2
  · simp
    exact h
theorem g_proper (S : SpecK) (d : DefI) (hb : d.body = B_proper) (hN : d.N.length = 2) (hp : d.ps.length = 1) (hl : Has S "_law_lots" p_lotsA) : Keeps1 S d p_proper := by
  rintro args sto Q ⟨n, rfl, h0, h1, h⟩
  refine ⟨hp.symm, ?_⟩
  rw [hb]
  unfold B_proper
  have e0 : startE d.N [.dat (.int n)] = [some ⟨false, .dat (.int n)⟩, none] := by simp [startE, hN, List.replicate]
  rw [e0]
  refine step fun K hK => ?_
  simp
  refine hl _ _ _ ⟨n, rfl, h0, h1, _, rfl, ?_⟩
  refine comp_filter (fun l : List Int => decide ((l.length : Int) < n)) il (fun o ho => by simp at ho; subst ho; trivial) (by rw [SL_eq]; have := lotsA_len h1; omega) (fun l _ K2 hK2 => ?_) ?_
  · refine ⟨_, rfl, ?_⟩
    simp [f_len_il]
    by_cases h2 : (l.length : Int) < n
    · refine .inr ⟨h2, ?_⟩
      simpa [h2] using hK2
    · refine .inl ⟨by omega, ?_⟩
      simpa [h2] using hK2
  · simp
    exact h
/-! ### cuts, lacks -/
theorem c_neb {a b : Bool} : cmpA .NotEq (.bool a) (.bool b) = some (a != b) := by cases a <;> cases b <;> rfl
def cutL (ls : List (Int × Int)) (lot : List Int) : Int := ((ls.filter fun p => decide (p.1 ∈ lot) != decide (p.2 ∈ lot)).length : Int)
def p_cut : Pre := fun args sto Q => ∃ n ls lot, args = [.dat (netD n ls), .dat (il lot)] ∧ ls.length ≤ 10000 ∧ Q ⟨false, .dat (.int (cutL ls lot))⟩ sto
def B_cut : ISs := (.cons (.ret (.bcl .len (.cons (.comp (.int 1) (.tup [(.nm 2), (.nm 3)]) (.ex (.idx (.var 0) (.int 1))) (.so (.cmp .NotEq (.cmp .In (.var 2) (.var 1)) (.cmp .In (.var 3) (.var 1)))) [2, 3]) .nil))) .nil)
theorem g_cut (S : SpecK) (d : DefI) (hb : d.body = B_cut) (hN : d.N.length = 4) (hp : d.ps.length = 2) : Keeps1 S d p_cut := by
  rintro args sto Q ⟨n, ls, lot, rfl, hl, h⟩
  refine ⟨hp.symm, ?_⟩
  rw [hb]
  unfold B_cut
  have e0 : startE d.N [.dat (netD n ls), .dat (il lot)] = [some ⟨false, .dat (netD n ls)⟩, some ⟨false, .dat (il lot)⟩, none, none] := by simp [startE, hN, List.replicate]
  rw [e0]
  refine step fun K hK => ?_
  simp [net1]
  refine comp_filter (fun p : Int × Int => decide (p.1 ∈ lot) != decide (p.2 ∈ lot)) (fun _ => .int 1) (fun o ho => by simp at ho; subst ho; trivial) (by rw [SL_eq]; omega) (fun p _ K2 hK2 => ?_) ?_
  · obtain ⟨a, b⟩ := p
    refine ⟨_, rfl, ?_⟩
    simp [lk, c_in, in_il, c_neb]
    by_cases h1 : a ∈ lot <;> by_cases h2 : b ∈ lot <;> simp [h1, h2] at hK2 ⊢ <;> exact hK2
  · simp
    exact h
def lackL (ls : List (Int × Int)) (k : Int) (lot : List Int) : Int := if k - cutL ls lot > 0 then k - cutL ls lot else 0
def p_lack : Pre := fun args sto Q => ∃ n ls k lot, args = [.dat (netD n ls), .dat (.int k), .dat (il lot)] ∧ ls.length ≤ 10000 ∧ Q ⟨false, .dat (.int (lackL ls k lot))⟩ sto
def B_lack (f : String) : ISs := (.cons (.ret (.bcl .max (.cons (.int 0) (.cons (.bin .Sub (.var 1) (.call f (.cons (.var 0) (.cons (.var 2) .nil)))) .nil)))) .nil)
theorem g_lack (S : SpecK) (d : DefI) (f : String) (hf : Has S f p_cut) (hb : d.body = B_lack f) (hN : d.N.length = 3) (hp : d.ps.length = 3) : Keeps1 S d p_lack := by
  rintro args sto Q ⟨n, ls, k, lot, rfl, hl, h⟩
  refine ⟨hp.symm, ?_⟩
  rw [hb]
  unfold B_lack
  have e0 : startE d.N [.dat (netD n ls), .dat (.int k), .dat (il lot)] = [some ⟨false, .dat (netD n ls)⟩, some ⟨false, .dat (.int k)⟩, some ⟨false, .dat (il lot)⟩] := by simp [startE, hN, List.replicate]
  rw [e0]
  refine step fun K hK => ?_
  simp
  refine hf _ _ _ ⟨n, ls, lot, rfl, hl, ?_⟩
  simp
  simpa [lackL] using h
end Ev
end

section
set_option Elab.async false
set_option linter.all false
set_option maxRecDepth 100000
/-! Ev34: lists of numbers: sums, rows in order, parts; lots as parts. -/
namespace Ev
open PySem PySem.Spec PyProof.Rows L2

/-! ### sums -/
theorem perm_sumI {l m : List Int} (h : l.Perm m) : l.sum = m.sum := by
  induction h with
  | nil => rfl
  | cons x _ ih => simp [ih]
  | swap x y l => simp only [List.sum_cons]; omega
  | trans _ _ a b => exact a.trans b
theorem sum_nonneg {l : List Int} (h : ∀ x ∈ l, 0 ≤ x) : 0 ≤ l.sum := by
  induction l with
  | nil => exact Int.le_refl _
  | cons a r ih =>
    have := ih fun x hx => h x (by simp [hx])
    have := h a (by simp)
    simp only [List.sum_cons]; omega
theorem sum_sub {α : Type} [DecidableEq α] {f : α → Int} : ∀ {l m : List α}, l.Nodup → (∀ x ∈ l, x ∈ m) → (∀ x ∈ m, 0 ≤ f x) → (l.map f).sum ≤ (m.map f).sum
  | [], m, _, _, h => by
    refine sum_nonneg fun x hx => ?_
    obtain ⟨y, hy, rfl⟩ := List.mem_map.mp hx
    exact h y hy
  | a :: l, m, hn, hs, h => by
    have ha := hs a (by simp)
    have hp := List.perm_cons_erase ha
    have e := perm_sumI (hp.map f)
    rw [e, List.map_cons, List.map_cons, List.sum_cons, List.sum_cons]
    have hn' := List.nodup_cons.mp hn
    have := sum_sub (f := f) (l := l) (m := m.erase a) hn'.2 (fun x hx => (List.mem_erase_of_ne (fun e => hn'.1 (by rw [← e]; exact hx))).mpr (hs x (by simp [hx]))) fun x hx => h x (List.mem_of_mem_erase hx)
    omega
theorem len_sub {α : Type} [DecidableEq α] {l m : List α} (hn : l.Nodup) (hs : ∀ x ∈ l, x ∈ m) : l.length ≤ m.length := by
  have := sum_sub (f := fun _ => (1 : Int)) hn hs (by simp)
  have e : ∀ l : List α, (l.map fun _ => (1 : Int)).sum = l.length := by
    intro l
    induction l with
    | nil => rfl
    | cons a r ih => simp only [List.map_cons, List.sum_cons, ih, List.length_cons]; omega
  rw [e, e] at this
  omega
theorem sum_sublist {f : Int → Int} : ∀ {u c : List Int}, List.Sublist u c → (∀ x ∈ c, f x ≤ 0) → (c.map f).sum ≤ (u.map f).sum := by
  intro u c h
  induction h with
  | slnil => intro _; exact Int.le_refl _
  | cons a _ ih =>
    intro h
    have := ih fun x hx => h x (by simp [hx])
    have := h a (by simp)
    simp only [List.map_cons, List.sum_cons]; omega
  | cons_cons a _ ih =>
    intro h
    have := ih fun x hx => h x (by simp [hx])
    simp only [List.map_cons, List.sum_cons]; omega
theorem sum_shift (θ : Int) : ∀ l : List Int, (l.map fun x => x - θ).sum = l.sum - l.length * θ
  | [] => by simp
  | a :: r => by
    have := sum_shift θ r
    simp only [List.map_cons, List.sum_cons, this, List.length_cons]
    have : ((r.length + 1 : Nat) : Int) * θ = (r.length : Int) * θ + θ := by
      rw [Int.natCast_add, Int.add_mul]; simp
    omega
theorem sum_le_of {α : Type} {f g : α → Int} : ∀ {l : List α}, (∀ x ∈ l, f x ≤ g x) → (l.map f).sum ≤ (l.map g).sum
  | [], _ => Int.le_refl _
  | a :: r, h => by
    have := sum_le_of (f := f) (g := g) (l := r) fun x hx => h x (by simp [hx])
    have := h a (by simp)
    simp only [List.map_cons, List.sum_cons]; omega
/-- the least of a row, as many as a part has, are together no more than the part -/
theorem least_sum {s c u : List Int} (hp : s.Perm c) (hs : s.Pairwise (· ≤ ·)) (hu : List.Sublist u c) (h0 : ∀ x ∈ c, 0 ≤ x) {r : Nat} (hr : r ≤ u.length) : (s.take r).sum ≤ u.sum := by
  have hu0 : ∀ x ∈ u, 0 ≤ x := fun x hx => h0 x (hu.subset hx)
  by_cases hz : r = 0
  · subst hz; simpa using sum_nonneg hu0
  have hul := hu.length_le
  have hsl := hp.length_eq
  have hlt : r - 1 < s.length := by omega
  -- the last of them
  let θ := s[r - 1]
  have hθ : 0 ≤ θ := h0 _ (hp.mem_iff.mp (List.getElem_mem _))
  have ht : ∀ x ∈ s.take r, x ≤ θ := by
    intro x hx
    obtain ⟨i, hi, rfl⟩ := List.mem_iff_getElem.mp hx
    simp only [List.length_take] at hi
    rw [List.getElem_take]
    by_cases e : i = r - 1
    · subst e; exact Int.le_refl _
    · exact List.pairwise_iff_getElem.mp hs i (r - 1) (by omega) hlt (by omega)
  have hd : ∀ x ∈ s.drop r, θ ≤ x := by
    intro x hx
    obtain ⟨i, hi, rfl⟩ := List.mem_iff_getElem.mp hx
    simp only [List.length_drop] at hi
    rw [List.getElem_drop]
    exact List.pairwise_iff_getElem.mp hs (r - 1) (r + i) hlt (by omega) (by omega)
  let f : Int → Int := fun x => if x - θ ≤ 0 then x - θ else 0
  have f0 : ∀ x, f x ≤ 0 := fun x => by show (if x - θ ≤ 0 then x - θ else 0) ≤ 0; split <;> omega
  have f1 : ∀ x, f x ≤ x - θ := fun x => by show (if x - θ ≤ 0 then x - θ else 0) ≤ _; split <;> omega
  have e1 : (s.map f).sum = (c.map f).sum := perm_sumI (hp.map f)
  have e2 : (s.map f).sum = ((s.take r).map f).sum + ((s.drop r).map f).sum := by
    conv => lhs; rw [← List.take_append_drop r s]
    rw [List.map_append, List.sum_append]
  have e3 : ((s.take r).map f).sum = (s.take r).sum - r * θ := by
    have : (s.take r).map f = (s.take r).map fun x => x - θ := List.map_congr_left fun x hx => by
      have := ht x hx
      show (if x - θ ≤ 0 then x - θ else 0) = _
      rw [if_pos (by omega)]
    rw [this, sum_shift, List.length_take, Nat.min_eq_left (by omega)]
  have e4 : 0 ≤ ((s.drop r).map f).sum := by
    refine sum_nonneg fun x hx => ?_
    obtain ⟨y, hy, rfl⟩ := List.mem_map.mp hx
    have := hd y hy
    show 0 ≤ (if y - θ ≤ 0 then y - θ else 0)
    split <;> omega
  have e5 := sum_sublist (f := f) hu fun x _ => f0 x
  have e6 : (u.map f).sum ≤ u.sum - u.length * θ := by
    rw [← sum_shift]
    exact sum_le_of fun x _ => f1 x
  have e7 : (r : Int) * θ ≤ (u.length : Int) * θ := Int.mul_le_mul_of_nonneg_right (by omega) hθ
  omega

/-! ### rows in order, parts -/
theorem srt_int_sorted (l : List Int) : (srtBy PyData.int l).Pairwise (· ≤ ·) := by
  have e := PySem.W.dataLe_int (fun b : Int => b)
  unfold srtBy
  rw [show PySem.W.dataLe false PyData.int = fun a b : Int => decide (a ≤ b) from e]
  have := List.pairwise_mergeSort (le := fun a b : Int => decide (a ≤ b)) (fun a b c h1 h2 => by simp at *; omega) (fun a b => by simp; omega) l
  exact this.imp fun h => by simpa using h
theorem dataLe_il : PySem.W.dataLe false il = fun p q : List Int => decide (p ≤ q) := by
  funext p q
  show (!PySem.W.dataLt (il q) (il p)) = _
  unfold il
  rw [PySem.W.dataLt_tuple]
  have := PySem.W.dataLt_ints q p
  unfold PySem.W.rowLt at this
  rw [this]
  by_cases h : q < p
  · have h' : ¬ p ≤ q := fun z => List.not_lt.mpr z h
    simp [h, h']
  · have h' : p ≤ q := List.not_lt.mp h
    simp [h, h']
theorem srt_il_sorted (l : List (List Int)) : (srtBy il l).Pairwise (· ≤ ·) := by
  unfold srtBy
  rw [dataLe_il]
  have := List.pairwise_mergeSort (le := fun a b : List Int => decide (a ≤ b)) (fun a b c h1 h2 => by simp at *; exact List.le_trans h1 h2) (fun a b => by simp; exact List.le_total a b) l
  exact this.imp fun h => by simpa using h
/-- a row of numbers from 0 to below m, ascending -/
def NumLot (m : Int) (l : List Int) : Prop := l.Pairwise (· < ·) ∧ ∀ i ∈ l, 0 ≤ i ∧ i < m
theorem NumLot.nodup {m : Int} {l : List Int} (h : NumLot m l) : l.Nodup := h.1.imp fun h => by omega
theorem grow_iff : ∀ (r : List Int) (found : List (List Int)) (l : List Int), l ∈ grow r found ↔ ∃ l0 ∈ found, ∃ s, List.Sublist s r ∧ l = l0 ++ s
  | [], found, l => by
    constructor
    · intro h; exact ⟨l, h, [], List.Sublist.refl _, by simp⟩
    · rintro ⟨l0, h0, s, hs, rfl⟩
      have : s = [] := List.sublist_nil.mp hs
      subst this
      simpa [grow] using h0
  | a :: r, found, l => by
    unfold grow
    rw [grow_iff r]
    constructor
    · rintro ⟨l0, h0, s, hs, rfl⟩
      rcases List.mem_append.mp h0 with h0 | h0
      · exact ⟨l0, h0, s, hs.cons a, rfl⟩
      · obtain ⟨y, hy, rfl⟩ := List.mem_map.mp h0
        exact ⟨y, hy, a :: s, hs.cons_cons a, by simp⟩
    · rintro ⟨l0, h0, s, hs, rfl⟩
      cases hs with
      | cons _ hs => exact ⟨l0, List.mem_append_left _ h0, s, hs, rfl⟩
      | cons_cons _ hs => exact ⟨l0 ++ [a], List.mem_append_right _ (List.mem_map.mpr ⟨l0, h0, rfl⟩), _, hs, by simp⟩
theorem sub_range : ∀ (c j : Nat) (l : List Int), l.Pairwise (· < ·) → (∀ i ∈ l, (j : Int) ≤ i ∧ i < (j + c : Nat)) → List.Sublist l ((List.range' j c).map fun i : Nat => (i : Int))
  | 0, j, l, _, h => by
    cases l with
    | nil => exact List.Sublist.refl _
    | cons a r => have := h a (by simp); omega
  | c + 1, j, l, hp, h => by
    rw [List.range'_succ, List.map_cons]
    cases l with
    | nil => exact List.nil_sublist _
    | cons a r =>
      have ha := h a (by simp)
      have hp' := List.pairwise_cons.mp hp
      by_cases e : a = j
      · subst e
        refine List.Sublist.cons_cons _ (sub_range c (j + 1) r hp'.2 fun i hi => ?_)
        have := hp'.1 i hi
        have := h i (by simp [hi])
        omega
      · refine List.Sublist.cons _ (sub_range c (j + 1) (a :: r) hp fun i hi => ?_)
        have h1 := h i hi
        rcases List.mem_cons.mp hi with rfl | hi
        · omega
        · have := hp'.1 i hi
          omega
theorem rngI_asc (m : Int) : (rngI m).Pairwise (· < ·) := by
  unfold rngI
  refine List.Pairwise.map _ (R := fun a b => a < b) (fun a b h => by omega) List.pairwise_lt_range
theorem numLot_iff {m : Int} {l : List Int} : NumLot m l ↔ List.Sublist l (rngI m) := by
  constructor
  · rintro ⟨h1, h2⟩
    have := sub_range m.toNat 0 l h1 fun i hi => by have := h2 i hi; omega
    unfold rngI
    rwa [List.range_eq_range']
  · intro h
    exact ⟨(rngI_asc m).sublist h, fun i hi => rngI_mem.mp (h.subset hi)⟩
theorem mem_grow_num {m : Int} {l : List Int} : l ∈ grow (rngI m) [[]] ↔ NumLot m l := by
  rw [grow_iff, numLot_iff]
  constructor
  · rintro ⟨l0, h0, s, hs, rfl⟩
    simp at h0; subst h0; simpa using hs
  · intro h; exact ⟨[], by simp, l, h, by simp⟩
theorem mem_lotsOf {n : Int} {l : List Int} : l ∈ lotsOf (rngI n) ↔ NumLot n l ∧ 0 < l.length ∧ l.length < n.toNat := by
  unfold lotsOf
  rw [(srtBy_perm il _).mem_iff, List.mem_filter, mem_grow_num, rngI_len]
  simp
end Ev
end

section
set_option Elab.async false
set_option linter.all false
set_option maxRecDepth 100000
namespace Ev
open PySem PySem.Spec PyProof.Rows L2
namespace K07
def b_law_net_1 : ISs := (.cons (.asg 6 (.call "_law_pick" (.cons (.var 0) (.cons (.bin .Sub (.var 3) (.int 1)) .nil)))) (.cons (.exp (.app (.var 4) (.tup (.cons (.var 6) (.cons (.bin .Add (.bin .Add (.var 6) (.int 1)) (.call "_law_pick" (.cons (.var 0) (.cons (.bin .Sub (.bin .Sub (.var 3) (.int 1)) (.var 6)) .nil)))) .nil))))) .nil))
def b_law_net : ISs := (.cons (.par [3, 4] (.cons (.bin .Add (.int 2) (.call "_law_pick" (.cons (.var 0) (.cons (.bin .Sub (.var 1) (.int 1)) .nil)))) (.cons (.lst .nil) .nil))) (.cons (.for_ (.nm 5) (.rg1 (.call "_law_pick" (.cons (.var 0) (.cons (.bin .Add (.var 2) (.int 1)) .nil)))) b_law_net_1) (.cons (.ret (.tup (.cons (.var 3) (.cons (.bcl .tuple (.cons (.bcl .sorted (.cons (.var 4) .nil)) .nil)) .nil)))) .nil)))
def b_law_two : ISs := (.cons (.ret (.bcl .tuple (.cons (.slc (.call "_law_any_order" (.cons (.var 0) (.cons (.lrg false (.rg1 (.idx (.var 1) (.int 0)))) .nil))) .no (.so (.int 2))) .nil))) .nil)
def b_law_of : ISs := (.cons (.ret (.idx (.var 1) (.call "_law_pick" (.cons (.var 0) (.cons (.bcl .len (.cons (.var 1) .nil)) .nil))))) .nil)
def b_law_drawn_way_1 : ISs := (.cons (.asg 8 (.comp (.var 10) (.tup [(.nm 10), (.tup [(.nm 11), (.nm 12)])]) (.enm (.idx (.var 1) (.int 1))) (.so (.bop true (.cons (.cmp .In (.var 4) (.tup (.cons (.var 11) (.cons (.var 12) .nil)))) (.cons (.cmp .NotIn (.bin .Sub (.bin .Add (.var 11) (.var 12)) (.var 4)) (.var 5)) .nil)))) [10, 11, 12])) (.cons (.ife (.bop true (.cons (.cmp .NotEq (.var 4) (.var 3)) (.cons (.cmp .NotEq (.var 8) (.lst .nil)) .nil))) (.cons (.asg 9 (.call "_law_of" (.cons (.var 0) (.cons (.var 8) .nil)))) (.cons (.asg 4 (.bin .Sub (.bcl .sum (.cons (.idx (.idx (.var 1) (.int 1)) (.var 9)) .nil)) (.var 4))) (.cons (.par [6, 5] (.cons (.bin .Add (.var 6) (.tup (.cons (.var 9) .nil))) (.cons (.bin .Add (.var 5) (.lst (.cons (.var 4) .nil))) .nil))) .nil))) .nil) .nil))
def b_law_drawn_way : ISs := (.cons (.par [4, 5, 6] (.cons (.var 2) (.cons (.lst (.cons (.var 2) .nil)) (.cons (.tup .nil) .nil)))) (.cons (.for_ (.nm 7) (.rg1 (.idx (.var 1) (.int 0))) b_law_drawn_way_1) (.cons (.ret (.var 6)) .nil)))
def b_is_number_row : ISs := (.cons (.ife (.nt (.isi (.var 0) .tuple)) (.cons (.ret (.bl false)) .nil) .nil) (.cons (.ret (.bcl .all (.cons (.comp (.bop true (.cons (.isi (.var 2) .int) (.cons (.nt (.isi (.var 2) .bool)) (.cons (.chain .LtE .Lt (.int 0) (.var 2) (.var 1)) .nil)))) (.nm 2) (.ex (.var 0)) .no [2]) .nil))) .nil))
def b_stations_on_1 : ISs := (.cons (.asg 5 (.idx (.idx (.var 0) (.int 1)) (.var 4))) (.cons (.ife (.cmp .NotIn (.idx (.var 3) (.neg (.int 1))) (.var 5)) (.cons (.ret .non) .nil) .nil) (.cons (.exp (.app (.var 3) (.bin .Sub (.bcl .sum (.cons (.var 5) .nil)) (.idx (.var 3) (.neg (.int 1)))))) .nil)))
def b_stations_on : ISs := (.cons (.asg 3 (.lst (.cons (.var 1) .nil))) (.cons (.for_ (.nm 4) (.ex (.var 2)) b_stations_on_1) (.cons (.ret (.bcl .tuple (.cons (.var 3) .nil))) .nil)))
def b_is_way_to : ISs := (.cons (.ife (.nt (.call "is_number_row" (.cons (.var 3) (.cons (.bcl .len (.cons (.idx (.var 0) (.int 1)) .nil)) .nil)))) (.cons (.ret (.bl false)) .nil) .nil) (.cons (.asg 4 (.call "stations_on" (.cons (.var 0) (.cons (.var 1) (.cons (.var 3) .nil))))) (.cons (.ret (.bop true (.cons (.isN true (.var 4)) (.cons (.cmp .Eq (.idx (.var 4) (.neg (.int 1))) (.var 2)) (.cons (.cmp .Eq (.sco false (.var 5) (.nm 5) (.ex (.var 4)) .no [5]) (.bcl .len (.cons (.var 4) .nil))) .nil))))) .nil)))
def b_law_is_int : ISs := (.cons (.ret (.bop true (.cons (.isi (.var 0) .int) (.cons (.nt (.isi (.var 0) .bool)) .nil)))) .nil)
def b_law_is_row : ISs := (.cons (.ret (.bop true (.cons (.isi (.var 0) .tuple) (.cons (.cmp .Eq (.comp (.var 2) (.nm 2) (.ex (.var 0)) (.so (.bop false (.cons (.nt (.call "_law_is_int" (.cons (.var 2) .nil))) (.cons (.nt (.chain .LtE .Lt (.int 0) (.var 2) (.var 1))) .nil)))) [2]) (.lst .nil)) .nil)))) .nil)
def b_law_stations_1 : ISs := (.cons (.unp (.tup [(.nm 5), (.nm 6)]) (.idx (.idx (.var 0) (.int 1)) (.var 4))) (.cons (.ife (.cmp .NotIn (.idx (.var 3) (.neg (.int 1))) (.tup (.cons (.var 5) (.cons (.var 6) .nil)))) (.cons (.ret .non) .nil) .nil) (.cons (.exp (.app (.var 3) (.bin .Sub (.bin .Add (.var 5) (.var 6)) (.idx (.var 3) (.neg (.int 1)))))) .nil)))
def b_law_stations : ISs := (.cons (.asg 3 (.lst (.cons (.var 1) .nil))) (.cons (.for_ (.nm 4) (.ex (.var 2)) b_law_stations_1) (.cons (.ret (.bcl .tuple (.cons (.var 3) .nil))) .nil)))
def b_law_is_way : ISs := (.cons (.asg 4 (.ife (.call "_law_is_row" (.cons (.var 3) (.cons (.bcl .len (.cons (.idx (.var 0) (.int 1)) .nil)) .nil))) (.call "_law_stations" (.cons (.var 0) (.cons (.var 1) (.cons (.var 3) .nil)))) .non)) (.cons (.ret (.bop true (.cons (.isN true (.var 4)) (.cons (.cmp .Eq (.idx (.var 4) (.neg (.int 1))) (.var 2)) (.cons (.cmp .Eq (.bcl .len (.cons (.bcl .dict (.cons (.comp (.tup (.cons (.var 5) (.cons (.int 0) .nil))) (.nm 5) (.ex (.var 4)) .no [5]) .nil)) .nil)) (.bcl .len (.cons (.var 4) .nil))) .nil))))) .nil))
def b_first_shared : ISs := (.cons (.asg 1 (.comp2 (.var 4) (.tup [(.nm 2), (.nm 3)]) (.enm (.var 0)) .no (.nm 4) (.ex (.var 3)) (.so (.bcl .any (.cons (.comp (.cmp .In (.var 4) (.var 5)) (.nm 5) (.ex (.slc (.var 0) (.so (.bin .Add (.var 2) (.int 1))) .no)) .no [5]) .nil))) [2, 3, 4] [4])) (.cons (.ret (.ife (.cmp .NotEq (.var 1) (.lst .nil)) (.bcl .min (.cons (.var 1) .nil)) .non)) .nil))
def b_are_apart : ISs := (.cons (.ret (.isN false (.call "first_shared" (.cons (.var 0) .nil)))) .nil)
def b_law_shared_1 : ISs := (.cons (.asg 1 (.bin .Add (.var 1) (.comp (.var 5) (.nm 5) (.ex (.var 3)) (.so (.cmp .In (.var 5) (.var 4))) [5]))) .nil)
def b_law_shared_2 : ISs := (.cons (.for_ (.nm 4) (.ex (.slc (.var 0) (.so (.bin .Add (.var 2) (.int 1))) .no)) b_law_shared_1) .nil)
def b_law_shared : ISs := (.cons (.asg 1 (.lst .nil)) (.cons (.for_ (.tup [(.nm 2), (.nm 3)]) (.enm (.var 0)) b_law_shared_2) (.cons (.ret (.ife (.cmp .NotEq (.var 1) (.lst .nil)) (.bcl .min (.cons (.var 1) .nil)) .non)) .nil)))
def b_law_1 : ISs := (.cons (.ife (.cmp .NotEq (.bcl .repr (.cons (.call "are_apart" (.cons (.var 16) .nil)) .nil)) (.bcl .repr (.cons (.isN false (.call "_law_shared" (.cons (.var 16) .nil))) .nil))) (.cons (.ret (.bl false)) .nil) .nil) .nil)
def b_law_2 : ISs := (.cons (.asg 14 (.bcl .repr (.cons (.var 13) .nil))) (.cons (.ife (.bop false (.cons (.cmp .NotEq (.bcl .repr (.cons (.call "is_way_to" (.cons (.var 3) (.cons (.var 7) (.cons (.var 8) (.cons (.var 13) .nil))))) .nil)) (.bcl .repr (.cons (.call "_law_is_way" (.cons (.var 3) (.cons (.var 7) (.cons (.var 8) (.cons (.var 13) .nil))))) .nil))) (.cons (.cmp .NotEq (.bcl .repr (.cons (.var 13) .nil)) (.var 14)) .nil))) (.cons (.ret (.bl false)) .nil) .nil) .nil))
def b_law_3 : ISs := (.cons (.unp (.tup [(.nm 7), (.nm 8)]) (.call "_law_two" (.cons (.var 1) (.cons (.var 3) .nil)))) (.cons (.asg 9 (.call "_law_drawn_way" (.cons (.var 1) (.cons (.var 3) (.cons (.var 7) (.cons (.var 8) .nil)))))) (.cons (.asg 10 (.bcl .tuple (.cons (.slc (.call "_law_any_order" (.cons (.var 1) (.cons (.lrg false (.rg1 (.var 5))) .nil))) .no (.so (.call "_law_pick" (.cons (.var 1) (.cons (.int 4) .nil))))) .nil))) (.cons (.asg 11 (.lst (.cons .non (.cons (.bl true) (.cons (.int 0) (.cons (.tup (.cons (.var 5) .nil)) (.cons (.tup (.cons (.neg (.int 1)) .nil)) (.cons (.tup (.cons (.int 0) (.cons (.int 0) .nil))) (.cons (.lst (.cons (.int 0) .nil)) (.cons (.str "0") (.cons (.dnew false) (.cons (.tup (.cons (.bl true) .nil)) (.cons (.tup (.cons (.int 0) (.cons .non .nil))) (.cons (.bcl .list (.cons (.var 9) .nil)) (.cons (.rev (.var 9)) .nil))))))))))))))) (.cons (.asg 12 (.lst (.cons (.var 9) (.cons (.var 10) (.cons (.bin .Add (.var 9) (.slc (.var 9) (.so (.neg (.int 1))) .no)) (.cons (.slc (.var 9) (.so (.int 1)) .no) (.cons (.tup .nil) (.cons (.call "_law_of" (.cons (.var 1) (.cons (.var 11) .nil))) (.cons (.call "_law_of" (.cons (.var 1) (.cons (.var 11) .nil))) (.cons (.bin .Add (.var 9) (.var 10)) .nil)))))))))) (.cons (.for_ (.nm 13) (.ex (.var 12)) b_law_2) (.cons (.ife (.cmp .NotEq (.bcl .repr (.cons (.call "stations_on" (.cons (.var 3) (.cons (.var 7) (.cons (.var 9) .nil)))) .nil)) (.bcl .repr (.cons (.call "_law_stations" (.cons (.var 3) (.cons (.var 7) (.cons (.var 9) .nil)))) .nil))) (.cons (.ret (.bl false)) .nil) .nil) (.cons (.ife (.cmp .NotEq (.bop true (.cons (.cmp .NotEq (.var 9) (.tup .nil)) (.cons (.call "is_way_to" (.cons (.var 3) (.cons (.var 7) (.cons (.var 8) (.cons (.var 9) .nil))))) .nil))) (.call "is_way_to" (.cons (.var 3) (.cons (.var 8) (.cons (.var 7) (.cons (.rev (.var 9)) .nil)))))) (.cons (.ret (.bl false)) .nil) .nil) (.cons (.asg 15 (.bcl .tuple (.cons (.comp (.call "_law_drawn_way" (.cons (.var 1) (.cons (.var 3) (.cons (.var 7) (.cons (.var 8) .nil))))) (.nm 18) (.rg1 (.call "_law_pick" (.cons (.var 1) (.cons (.int 4) .nil)))) .no [18]) .nil))) (.cons (.for_ (.nm 16) (.ex (.tup (.cons (.var 15) (.cons (.tup (.cons (.var 10) (.cons (.var 9) .nil))) (.cons (.tup .nil) .nil))))) b_law_1) .nil))))))))))
def b_law_4 : ISs := (.cons (.asg 3 (.call "_law_net" (.cons (.var 1) (.cons (.idx (.lst (.cons (.int 3) (.cons (.int 5) (.cons (.int 8) (.cons (.int 8) .nil))))) (.var 2)) (.cons (.idx (.lst (.cons (.int 4) (.cons (.int 9) (.cons (.int 14) (.cons (.int 20) .nil))))) (.var 2)) .nil))))) (.cons (.par [4, 5] (.cons (.bcl .repr (.cons (.var 3) .nil)) (.cons (.bcl .len (.cons (.idx (.var 3) (.int 1)) .nil)) .nil))) (.cons (.for_ (.nm 6) (.rg1 (.int 4)) b_law_3) (.cons (.ife (.cmp .NotEq (.bcl .repr (.cons (.var 3) .nil)) (.var 4)) (.cons (.ret (.bl false)) .nil) .nil) .nil))))
def b_law : ISs := (.cons (.asg 1 (.call "_law_open_cells" (.cons (.var 0) .nil))) (.cons (.for_ (.nm 2) (.rg1 (.int 4)) b_law_4) (.cons (.asg 3 (.tup (.cons (.int 4) (.cons (.tup (.cons (.tup (.cons (.int 0) (.cons (.int 1) .nil))) (.cons (.tup (.cons (.int 0) (.cons (.int 1) .nil))) (.cons (.tup (.cons (.int 0) (.cons (.int 2) .nil))) (.cons (.tup (.cons (.int 1) (.cons (.int 3) .nil))) (.cons (.tup (.cons (.int 2) (.cons (.int 3) .nil))) .nil)))))) .nil)))) (.cons (.asg 17 (.lst (.cons (.call "stations_on" (.cons (.var 3) (.cons (.int 0) (.cons (.tup (.cons (.int 2) (.cons (.int 4) (.cons (.int 3) .nil)))) .nil)))) (.cons (.call "is_way_to" (.cons (.var 3) (.cons (.int 0) (.cons (.int 1) (.cons (.tup (.cons (.int 2) (.cons (.int 4) (.cons (.int 3) .nil)))) .nil))))) (.cons (.call "is_way_to" (.cons (.var 3) (.cons (.int 0) (.cons (.int 3) (.cons (.tup (.cons (.int 0) (.cons (.int 1) (.cons (.int 3) .nil)))) .nil))))) .nil))))) (.cons (.ret (.cmp .Eq (.var 17) (.lst (.cons (.tup (.cons (.int 0) (.cons (.int 2) (.cons (.int 3) (.cons (.int 1) .nil))))) (.cons (.bl true) (.cons (.bl false) .nil)))))) .nil)))))
end K07
end Ev
end

section
set_option Elab.async false
set_option linter.all false
set_option maxRecDepth 100000
set_option maxHeartbeats 4000000
/-! W1: ways of links: plain. -/
namespace Ev
open PySem PySem.Spec PyProof.Rows L2
namespace K07
def arr (ls : List (Int × Int)) (i : Int) : Int × Int := ls.getD i.toNat (0, 0)
/-- the stations on a way from a -/
def stF (ls : List (Int × Int)) : Int → List Int → Option (List Int)
  | a, [] => some [a]
  | a, i :: r => if a = (arr ls i).1 ∨ a = (arr ls i).2 then (stF ls ((arr ls i).1 + (arr ls i).2 - a) r).map (a :: ·) else none
def wayU (ls : List (Int × Int)) (a b : Int) (way : List Int) : Bool := match stF ls a way with
  | none => false
  | some row => decide (row.getLast? = some b) && decide (row.Nodup)
theorem st_cons (ls : List (Int × Int)) (a i : Int) (r : List Int) : stF ls a (i :: r) = if a = (arr ls i).1 ∨ a = (arr ls i).2 then (stF ls ((arr ls i).1 + (arr ls i).2 - a) r).map (a :: ·) else none := rfl
theorem st_head {ls : List (Int × Int)} : ∀ {way : List Int} {a : Int} {row : List Int}, stF ls a way = some row → ∃ r, row = a :: r ∧ r.length = way.length
  | [], a, row, h => by
    cases h
    exact ⟨[], rfl, rfl⟩
  | i :: way, a, row, h => by
    rw [st_cons] at h
    split at h
    · obtain ⟨q, hq, rfl⟩ := Option.map_eq_some_iff.mp h
      obtain ⟨r, rfl, hl⟩ := st_head hq
      exact ⟨_, rfl, by simp [hl]⟩
    · cases h
theorem st_snoc {ls : List (Int × Int)} {i x : Int} : ∀ {way : List Int} {a : Int} {row : List Int}, stF ls a way = some row → row.getLast? = some x → (x = (arr ls i).1 ∨ x = (arr ls i).2) → stF ls a (way ++ [i]) = some (row ++ [(arr ls i).1 + (arr ls i).2 - x])
  | [], a, row, h, hl, hx => by
    cases h
    simp at hl
    subst hl
    show (if a = (arr ls i).1 ∨ a = (arr ls i).2 then some [a, (arr ls i).1 + (arr ls i).2 - a] else none) = _
    rw [if_pos hx]
    rfl
  | j :: way, a, row, h, hl, hx => by
    rw [st_cons] at h
    rw [List.cons_append, st_cons]
    split at h
    · rename_i hj
      obtain ⟨q, hq, rfl⟩ := Option.map_eq_some_iff.mp h
      obtain ⟨r, rfl, _⟩ := st_head hq
      rw [List.getLast?_cons_cons] at hl
      rw [if_pos hj, st_snoc hq hl hx]
      rfl
    · cases h
theorem st_rev {ls : List (Int × Int)} : ∀ {way : List Int} {a b : Int} {row : List Int}, stF ls a way = some row → row.getLast? = some b → stF ls b way.reverse = some row.reverse
  | [], a, b, row, h, hl => by
    cases h
    simp at hl
    subst hl
    rfl
  | i :: way, a, b, row, h, hl => by
    rw [st_cons] at h
    split at h
    · rename_i ha
      obtain ⟨q, hq, rfl⟩ := Option.map_eq_some_iff.mp h
      obtain ⟨r, rfl, _⟩ := st_head hq
      rw [List.getLast?_cons_cons] at hl
      have ih := st_rev hq hl
      rw [List.reverse_cons, List.reverse_cons]
      have := st_snoc (i := i) ih (by rw [List.getLast?_reverse]; rfl) (by omega)
      rw [this]
      congr 3
      omega
    · cases h
theorem way_rev {ls : List (Int × Int)} {a b : Int} {way : List Int} (h : wayU ls a b way = true) : wayU ls b a way.reverse = true := by
  unfold wayU at h
  split at h
  · cases h
  · rename_i row hr
    simp only [Bool.and_eq_true, decide_eq_true_eq] at h
    obtain ⟨r, rfl, _⟩ := st_head hr
    unfold wayU
    rw [st_rev hr h.1]
    simp only [Bool.and_eq_true, decide_eq_true_eq]
    exact ⟨by rw [List.getLast?_reverse]; rfl, (List.reverse_perm _).nodup_iff.mpr h.2⟩
theorem way_back (ls : List (Int × Int)) (a b : Int) (way : List Int) : wayU ls a b way = wayU ls b a way.reverse := by
  cases h : wayU ls a b way with
  | true => exact (way_rev h).symm
  | false =>
    cases h2 : wayU ls b a way.reverse with
    | false => rfl
    | true =>
      have := way_rev h2
      rw [List.reverse_reverse, h] at this
      cases this
theorem way_nil {ls : List (Int × Int)} {a b : Int} (h : a ≠ b) : wayU ls a b [] = false := by
  show (decide (some a = some b) && _) = false
  simp [h]
/-! ### links that ways share -/
def twP : List (List Int) → List Int
  | [] => []
  | row :: r => (r.flatMap fun late => row.filter fun x => decide (x ∈ late)) ++ twP r
theorem twP_cons (row : List Int) (r : List (List Int)) : twP (row :: r) = (r.flatMap fun late => row.filter fun x => decide (x ∈ late)) ++ twP r := rfl
theorem tw_mem {x : Int} {row : List Int} {r : List (List Int)} : x ∈ twP (row :: r) ↔ (x ∈ row ∧ ∃ late ∈ r, x ∈ late) ∨ x ∈ twP r := by
  rw [twP_cons, List.mem_append, List.mem_flatMap]
  constructor
  · rintro (⟨late, h1, h2⟩ | h)
    · obtain ⟨q1, q2⟩ := List.mem_filter.mp h2
      exact .inl ⟨q1, late, h1, by simpa using q2⟩
    · exact .inr h
  · rintro (⟨h1, late, h2, h3⟩ | h)
    · exact .inl ⟨late, h2, List.mem_filter.mpr ⟨h1, by simpa using h3⟩⟩
    · exact .inr h
def shP : List (List Int) → List Int
  | [] => []
  | row :: r => row.filter (fun x => r.any fun late => decide (x ∈ late)) ++ shP r
theorem sh_mem {x : Int} : ∀ {ws : List (List Int)}, x ∈ shP ws ↔ x ∈ twP ws
  | [] => Iff.rfl
  | row :: r => by
    have ih := sh_mem (x := x) (ws := r)
    show x ∈ row.filter (fun x => r.any fun late => decide (x ∈ late)) ++ shP r ↔ _
    rw [List.mem_append, ih, tw_mem, List.mem_filter, List.any_eq_true]
    simp
def minL : List Int → Int
  | [] => 0
  | a :: r => minI a r
theorem f_minL {l : List Int} (h : l ≠ []) : bD .min [.list (l.map PyData.int)] = some (.int (minL l)) := by
  cases l with
  | nil => exact absurd rfl h
  | cons a r =>
    show (match intsOf ((a :: r).map PyData.int) with | some (n :: ns) => some (PyData.int (minI n ns)) | _ => _) = _
    rw [intsOf_map]
    rfl
theorem minL_is {l : List Int} (h : l ≠ []) : minL l ∈ l ∧ ∀ m ∈ l, minL l ≤ m := by
  cases l with
  | nil => exact absurd rfl h
  | cons a r => exact minI_min r a
theorem minL_eq {l : List Int} {x : Int} (h1 : x ∈ l) (h2 : ∀ m ∈ l, x ≤ m) : minL l = x := by
  obtain ⟨q1, q2⟩ := minL_is (l := l) fun e => by rw [e] at h1; cases h1
  have a := q2 x h1
  have b := h2 _ q1
  omega
def minO (l : List Int) : PyData := if l = [] then .none else .int (minL l)
theorem minO_same {l m : List Int} (h : ∀ x, x ∈ l ↔ x ∈ m) : minO l = minO m := by
  unfold minO
  by_cases e : l = []
  · have : m = [] := by
      subst e
      exact List.eq_nil_iff_forall_not_mem.mpr fun x hx => absurd ((h x).mpr hx) (by simp)
    rw [if_pos e, if_pos this]
  · have hm : m ≠ [] := fun z => by
      subst z
      exact e (List.eq_nil_iff_forall_not_mem.mpr fun x hx => absurd ((h x).mp hx) (by simp))
    obtain ⟨h1, h2⟩ := minL_is hm
    rw [if_neg e, if_neg hm, minL_eq ((h _).mpr h1) fun x hx => h2 x ((h x).mp hx)]
end K07
end Ev
end

section
set_option Elab.async false
set_option linter.all false
set_option maxRecDepth 100000
set_option maxHeartbeats 8000000
/-! W2: rows of numbers, stations on a way, ways. -/
namespace Ev
open PySem PySem.Spec PyProof.Rows L2
namespace K07
def isBelow (v : PyData) (m : Int) : Bool := match v with
  | .int i => decide (0 ≤ i) && decide (i < m)
  | _ => false
def toI : PyData → Int
  | .int i => i
  | _ => 0
def isIntB : PyData → Bool
  | .int _ => true
  | _ => false
def numRowB (m : Int) : PyData → Bool
  | .tuple ds => ds.all fun d => isBelow d m
  | _ => false
theorem numRow_no {m : Int} {v : PyData} (h : isiD v .tuple = false) : numRowB m v = false := by cases v <;> first | rfl | (simp [isiD] at h)
theorem below_ints {n : Int} : ∀ {ds : List PyData}, ds.all (fun d => isBelow d n) = true → PyData.tuple ds = il (ds.map toI) ∧ ds = (ds.map toI).map .int ∧ ∀ i ∈ ds.map toI, 0 ≤ i ∧ i < n
  | [], _ => ⟨rfl, rfl, fun i hi => by cases hi⟩
  | d :: r, h => by
    rw [List.all_cons, Bool.and_eq_true] at h
    obtain ⟨h1, h2⟩ := h
    obtain ⟨e1, e2, e3⟩ := below_ints h2
    cases d with
    | int i =>
      simp [isBelow] at h1
      have e : (PyData.int i :: r) = ((PyData.int i :: r).map toI).map .int := by
        rw [List.map_cons, List.map_cons, ← e2]
        rfl
      refine ⟨by unfold il; rw [← e], e, ?_⟩
      intro j hj
      rcases List.mem_cons.mp hj with rfl | hj
      · exact h1
      · exact e3 j hj
    | _ => simp [isBelow] at h1
theorem toI_ints (l : List Int) : (l.map PyData.int).map toI = l := by
  rw [List.map_map]
  exact List.map_id' _
theorem below_of {n : Int} {l : List Int} (h : ∀ i ∈ l, 0 ≤ i ∧ i < n) : (l.map PyData.int).all (fun d => isBelow d n) = true := by
  rw [List.all_eq_true]
  intro d hd
  obtain ⟨i, hi, rfl⟩ := List.mem_map.mp hd
  obtain ⟨h0, h1⟩ := h i hi
  simp [isBelow, h0, h1]
theorem tup_of {v : PyData} (h : isiD v .tuple = true) : ∃ ds, v = .tuple ds := by cases v <;> first | exact ⟨_, rfl⟩ | (simp [isiD] at h)
theorem boolsOf_map : ∀ l : List Bool, boolsOf (l.map PyData.bool) = some l
  | [] => rfl
  | b :: r => by
    show (boolsOf (r.map PyData.bool)).map (b :: ·) = _
    rw [boolsOf_map r]
    rfl
theorem f_all (l : List Bool) : bD .all [.list (l.map PyData.bool)] = some (.bool (l.all id)) := by
  show (boolsOf (l.map PyData.bool)).map (fun bs => PyData.bool (bs.all id)) = _
  rw [boolsOf_map]; rfl
theorem comp_raw {chk : Stt → Prop} {step : PyData → (Option PyData → Stt → Prop) → Stt → Prop} {done : List PyData → Stt → Prop} {ds : List PyData} {st : Stt} (h : wpComp chk step done (ds.map id) [] st) : wpComp chk step done ds [] st := by rwa [List.map_id] at h
theorem loop_raw {step : PyData → (Stt → Prop) → Stt → Prop} {done : Stt → Prop} {st : Stt} {ds : List PyData} (h : wpLoop step done (ds.map id) st) : wpLoop step done ds st := by rwa [List.map_id] at h
def p_nrow : Pre := fun args sto Q => ∃ v m, args = [.dat v, .dat (.int m)] ∧ (∀ ds, v = .tuple ds → ds.length ≤ 1000) ∧ Q ⟨false, .dat (.bool (numRowB m v))⟩ sto
theorem g_nrow (S : SpecK) (d : DefI) (hb : d.body = b_is_number_row) (hN : d.N.length = 3) (hp : d.ps.length = 2) : Keeps1 S d p_nrow := by
  rintro args sto Q ⟨v, m, rfl, hv, h⟩
  refine ⟨hp.symm, ?_⟩
  rw [hb]
  unfold b_is_number_row
  have e0 : startE d.N [.dat v, .dat (.int m)] = [some ⟨false, .dat v⟩, some ⟨false, .dat (.int m)⟩, none] := by simp [startE, hN, List.replicate]
  rw [e0]
  refine step fun K hK => ?_
  cases hvt : isiD v .tuple with
  | false =>
    rw [numRow_no hvt] at h
    simp [hvt]
    refine step fun K2 hK2 => ?_
    simp
    exact h
  | true =>
    obtain ⟨ds, rfl⟩ := tup_of hvt
    have hl := hv ds rfl
    simp [hvt]
    subst hK
    refine step fun K hK => ?_
    simp
    refine comp_raw (comp_map (enc := id) (fun d => .bool (isBelow d m)) (fun o ho => by simp at ho; subst ho; trivial) (by rw [SL_eq]; omega) (fun x _ K2 hK2 => ⟨_, rfl, ?_⟩) ?_)
    · cases x with
      | int i =>
        simp [isiD]
        by_cases h1 : i < 0
        · have h0 : ¬ 0 ≤ i := by omega
          simpa [isBelow, h1, h0] using hK2
        · have h0 : 0 ≤ i := by omega
          by_cases h2 : m ≤ i
          · have h3 : ¬ i < m := by omega
            simpa [isBelow, h1, h0, h2, h3] using hK2
          · have h3 : i < m := by omega
            simpa [isBelow, h1, h0, h2, h3] using hK2
      | _ => simpa [isiD, isBelow] using hK2
    · simp only [backE, List.set_cons_succ, List.set_cons_zero]
      rw [show ds.map (fun d => PyData.bool (isBelow d m)) = (ds.map fun d => isBelow d m).map PyData.bool by rw [List.map_map]; rfl]
      refine ⟨_, f_all _, ?_⟩
      have e2 : (ds.map fun d => isBelow d m).all id = numRowB m (.tuple ds) := by
        show _ = ds.all fun d => isBelow d m
        simp [List.all_map, Function.comp_def]
      rw [e2]
      exact h
def p_isint : Pre := fun args sto Q => ∃ v, args = [.dat v] ∧ Q ⟨false, .dat (.bool (isIntB v))⟩ sto
theorem g_isint (S : SpecK) (d : DefI) (hb : d.body = b_law_is_int) (hN : d.N.length = 1) (hp : d.ps.length = 1) : Keeps1 S d p_isint := by
  rintro args sto Q ⟨v, rfl, h⟩
  refine ⟨hp.symm, ?_⟩
  rw [hb]
  unfold b_law_is_int
  have e0 : startE d.N [.dat v] = [some ⟨false, .dat v⟩] := by simp [startE, hN, List.replicate]
  rw [e0]
  refine step fun K hK => ?_
  cases v <;> simpa [isiD, isIntB] using h
theorem eq_nilL (ds : List PyData) : cmpA .Eq (.list ds) (.list []) = some (decide (ds = [])) := by
  show eqD (.list ds) (.list []) = _
  cases ds with
  | nil => rfl
  | cons d r =>
    simp only [eqD]
    split
    · simp [PyData.eqv, PyData.eqvAll]
    · simp
def p_lrow : Pre := fun args sto Q => ∃ v m, args = [.dat v, .dat (.int m)] ∧ (∀ ds, v = .tuple ds → ds.length ≤ 1000) ∧ Q ⟨false, .dat (.bool (numRowB m v))⟩ sto
theorem g_lrow (S : SpecK) (d : DefI) (hi : Has S "_law_is_int" p_isint) (hb : d.body = b_law_is_row) (hN : d.N.length = 3) (hp : d.ps.length = 2) : Keeps1 S d p_lrow := by
  rintro args sto Q ⟨v, m, rfl, hv, h⟩
  refine ⟨hp.symm, ?_⟩
  rw [hb]
  unfold b_law_is_row
  have e0 : startE d.N [.dat v, .dat (.int m)] = [some ⟨false, .dat v⟩, some ⟨false, .dat (.int m)⟩, none] := by simp [startE, hN, List.replicate]
  rw [e0]
  refine step fun K hK => ?_
  cases hvt : isiD v .tuple with
  | false =>
    rw [numRow_no hvt] at h
    simp [hvt]
    exact h
  | true =>
    obtain ⟨ds, rfl⟩ := tup_of hvt
    have hl := hv ds rfl
    simp [hvt]
    refine comp_raw (comp_filter (enc := id) (fun d => !isBelow d m) id (fun o ho => by simp at ho; subst ho; trivial) (by rw [SL_eq]; omega) (fun x _ K2 hK2 => ⟨_, rfl, ?_⟩) ?_)
    · simp
      refine hi _ _ _ ⟨x, rfl, ?_⟩
      cases x with
      | int i =>
        simp [isIntB]
        by_cases h1 : i < 0
        · have h0 : ¬ 0 ≤ i := by omega
          simpa [isBelow, h1, h0] using hK2
        · have h0 : 0 ≤ i := by omega
          by_cases h2 : m ≤ i
          · have h3 : ¬ i < m := by omega
            simpa [isBelow, h1, h0, h2, h3] using hK2
          · have h3 : i < m := by omega
            simpa [isBelow, h1, h0, h2, h3] using hK2
      | _ => simpa [isIntB, isBelow] using hK2
    · simp only [backE, List.set_cons_succ, List.set_cons_zero, List.map_id]
      have he := eq_nilL (ds.filter fun d => !isBelow d m)
      have e2 : decide (ds.filter (fun d => !isBelow d m) = []) = numRowB m (.tuple ds) := by
        show _ = ds.all fun d => isBelow d m
        rw [Bool.eq_iff_iff, decide_eq_true_eq, List.filter_eq_nil_iff, List.all_eq_true]
        simp
      rw [e2] at he
      simp [he]
      cases hr : numRowB m (.tuple ds) with
      | false => exact .inl ⟨rfl, by rw [hr] at h; exact h⟩
      | true => exact .inr ⟨rfl, by rw [hr] at h; exact h⟩
end K07
end Ev
end

section
set_option Elab.async false
set_option linter.all false
set_option maxRecDepth 100000
set_option maxHeartbeats 8000000
/-! W3: stations on a way; what is a way. -/
namespace Ev
open PySem PySem.Spec PyProof.Rows L2
namespace K07
theorem at_lastI (l : List Int) (x : Int) : atI (l.map PyData.int ++ [.int x]) (-1) = some (.int x) := by
  obtain ⟨a, _, h2, h3⟩ := at_neg1 (l := l ++ [x]) (by simp)
  rw [List.map_append] at h2
  have : a = x := by simpa using h3.symm
  rw [this] at h2
  exact h2
def stD (o : Option (List Int)) : PyData := match o with
  | some row => il row
  | none => .none
def p_st : Pre := fun args sto Q => ∃ n ls a way, args = [.dat (netD n ls), .dat (.int a), .dat (il way)] ∧ (∀ i ∈ way, 0 ≤ i ∧ i < (ls.length : Int)) ∧ way.length ≤ 10000 ∧ Q ⟨false, .dat (stD (stF ls a way))⟩ sto
theorem g_st (S : SpecK) (d : DefI) (hb : d.body = b_stations_on) (hN : d.N.length = 6) (hp : d.ps.length = 3) : Keeps1 S d p_st := by
  rintro args sto Q ⟨n, ls, a, way, rfl, hm, hw, h⟩
  refine ⟨hp.symm, ?_⟩
  rw [hb]
  unfold b_stations_on
  have e0 : startE d.N [.dat (netD n ls), .dat (.int a), .dat (il way)] = [some ⟨false, .dat (netD n ls)⟩, some ⟨false, .dat (.int a)⟩, some ⟨false, .dat (il way)⟩, none, none, none] := by simp [startE, hN, List.replicate]
  rw [e0]
  generalize hb1 : b_stations_on_1 = b1
  refine step fun K hK => ?_
  simp [SL_eq]
  subst hK
  refine step fun K hK => ?_
  rw [show il way = .tuple (way.map .int) from rfl]
  simp
  refine loop_inv (fun (r : List Int) st => ∃ G here e4 e5, st = ⟨[some ⟨false, .dat (netD n ls)⟩, some ⟨false, .dat (.int a)⟩, some ⟨false, .dat (.tuple (way.map .int))⟩, some ⟨true, .dat (.list (G.map .int ++ [.int here]))⟩, e4, e5], sto⟩ ∧ (∀ i ∈ r, 0 ≤ i ∧ i < (ls.length : Int)) ∧ G.length + r.length ≤ 10000 ∧ (stF ls here r).map (G ++ ·) = stF ls a way) ?_ ?_ way _ ⟨[], a, none, none, rfl, hm, by simpa using hw, by simp⟩
  · rintro i r st K2 ⟨G, here, e4, e5, rfl, hr, hl, hg⟩ hK2
    refine ⟨_, rfl, ?_⟩
    subst hb1
    unfold b_stations_on_1
    rw [List.length_cons] at hl
    obtain ⟨j0, j1⟩ := hr i List.mem_cons_self
    obtain ⟨q, hq, q1, q2⟩ := at_lks j0 j1
    have hqa : arr ls i = q := by unfold arr; rw [List.getD_eq_getElem?_getD, q1]; rfl
    rw [st_cons, hqa] at hg
    have hlast := at_lastI G here
    have hin := in_lk here q
    have hlen : (G.map PyData.int ++ [PyData.int here]).length < SL := by simp [SL_eq]; omega
    refine step fun K3 hK3 => ?_
    simp [net1, q2]
    subst hK3
    refine step fun K3 hK3 => ?_
    have hni : cmpA .NotIn (.int here) (lk q) = some (!decide (here = q.1 ∨ here = q.2)) := by
      rw [c_nin]
      rw [c_in] at hin
      rw [hin]
      rfl
    by_cases h1 : here = q.1 ∨ here = q.2
    · rw [if_pos h1] at hg
      simp [hlast, hni, h1]
      subst hK3
      refine step fun K3 hK3 => ?_
      simp [hlast, lk_sum]
      rw [v_appS rfl hlen]
      simp
      subst hK3
      refine Ev.last (S := S) ?_
      have := hK2 _ ⟨G ++ [here], q.1 + q.2 - here, some ⟨false, .dat (.int i)⟩, some ⟨false, .dat (lk q)⟩, rfl, fun x hx => hr x (List.mem_cons_of_mem _ hx), by simp; omega, by
        rw [← hg, Option.map_map]
        congr 1
        funext l
        simp⟩
      rw [List.map_append] at this
      simpa using this
    · rw [if_neg h1] at hg
      have hg : none = stF ls a way := hg
      rw [← hg] at h
      simp [hlast, hni, h1]
      refine step fun K4 hK4 => ?_
      simp
      exact h
  · rintro st ⟨G, here, e4, e5, rfl, hr, hl, hg⟩
    have hg : some (G ++ [here]) = stF ls a way := hg
    rw [← hg] at h
    show K _
    subst hK
    refine step fun K hK => ?_
    simp
    have : stD (some (G ++ [here])) = .tuple (G.map .int ++ [.int here]) := by simp [stD, il]
    rw [this] at h
    exact h
theorem g_lst (S : SpecK) (d : DefI) (hb : d.body = b_law_stations) (hN : d.N.length = 7) (hp : d.ps.length = 3) : Keeps1 S d p_st := by
  rintro args sto Q ⟨n, ls, a, way, rfl, hm, hw, h⟩
  refine ⟨hp.symm, ?_⟩
  rw [hb]
  unfold b_law_stations
  have e0 : startE d.N [.dat (netD n ls), .dat (.int a), .dat (il way)] = [some ⟨false, .dat (netD n ls)⟩, some ⟨false, .dat (.int a)⟩, some ⟨false, .dat (il way)⟩, none, none, none, none] := by simp [startE, hN, List.replicate]
  rw [e0]
  generalize hb1 : b_law_stations_1 = b1
  refine step fun K hK => ?_
  simp [SL_eq]
  subst hK
  refine step fun K hK => ?_
  rw [show il way = .tuple (way.map .int) from rfl]
  simp
  refine loop_inv (fun (r : List Int) st => ∃ G here e4 e5 e6, st = ⟨[some ⟨false, .dat (netD n ls)⟩, some ⟨false, .dat (.int a)⟩, some ⟨false, .dat (.tuple (way.map .int))⟩, some ⟨true, .dat (.list (G.map .int ++ [.int here]))⟩, e4, e5, e6], sto⟩ ∧ (∀ i ∈ r, 0 ≤ i ∧ i < (ls.length : Int)) ∧ G.length + r.length ≤ 10000 ∧ (stF ls here r).map (G ++ ·) = stF ls a way) ?_ ?_ way _ ⟨[], a, none, none, none, rfl, hm, by simpa using hw, by simp⟩
  · rintro i r st K2 ⟨G, here, e4, e5, e6, rfl, hr, hl, hg⟩ hK2
    refine ⟨_, rfl, ?_⟩
    subst hb1
    unfold b_law_stations_1
    rw [List.length_cons] at hl
    obtain ⟨j0, j1⟩ := hr i List.mem_cons_self
    obtain ⟨q, hq, q1, q2⟩ := at_lks j0 j1
    have hqa : arr ls i = q := by unfold arr; rw [List.getD_eq_getElem?_getD, q1]; rfl
    rw [st_cons, hqa] at hg
    have hlast := at_lastI G here
    have hin := in_lk here q
    have hlen : (G.map PyData.int ++ [PyData.int here]).length < SL := by simp [SL_eq]; omega
    refine step fun K3 hK3 => ?_
    rw [show lk q = .tuple [.int q.1, .int q.2] from rfl] at q2 hin
    simp [net1, q2]
    subst hK3
    refine step fun K3 hK3 => ?_
    have hni : cmpA .NotIn (.int here) (.tuple [.int q.1, .int q.2]) = some (!decide (here = q.1 ∨ here = q.2)) := by
      rw [c_nin]
      rw [c_in] at hin
      rw [hin]
      rfl
    by_cases h1 : here = q.1 ∨ here = q.2
    · rw [if_pos h1] at hg
      simp [hlast, hni, h1, SL_eq]
      subst hK3
      refine step fun K3 hK3 => ?_
      simp [hlast]
      rw [v_appS rfl hlen]
      simp
      subst hK3
      refine Ev.last (S := S) ?_
      have := hK2 _ ⟨G ++ [here], q.1 + q.2 - here, some ⟨false, .dat (.int i)⟩, some ⟨false, .dat (.int q.1)⟩, some ⟨false, .dat (.int q.2)⟩, rfl, fun x hx => hr x (List.mem_cons_of_mem _ hx), by simp; omega, by
        rw [← hg, Option.map_map]
        congr 1
        funext l
        simp⟩
      rw [List.map_append] at this
      simpa using this
    · rw [if_neg h1] at hg
      have hg : none = stF ls a way := hg
      rw [← hg] at h
      simp [hlast, hni, h1, SL_eq]
      refine step fun K4 hK4 => ?_
      simp
      exact h
  · rintro st ⟨G, here, e4, e5, e6, rfl, hr, hl, hg⟩
    have hg : some (G ++ [here]) = stF ls a way := hg
    rw [← hg] at h
    show K _
    subst hK
    refine step fun K hK => ?_
    simp
    have : stD (some (G ++ [here])) = .tuple (G.map .int ++ [.int here]) := by simp [stD, il]
    rw [this] at h
    exact h
end K07
end Ev
end

section
set_option Elab.async false
set_option linter.all false
set_option maxRecDepth 100000
set_option maxHeartbeats 8000000
/-! W4: what is a way. -/
namespace Ev
open PySem PySem.Spec PyProof.Rows L2
namespace K07
theorem nub_sub (l : List Int) : (nubI l).Sublist l := by
  have : ∀ (m r d : List Int), r.Sublist d → (m.foldl (fun r y => if y ∈ r then r else r ++ [y]) r).Sublist (d ++ m) := by
    intro m
    induction m with
    | nil => intro r d h; simpa using h
    | cons y m ih =>
      intro r d h
      rw [List.foldl_cons]
      have : d ++ y :: m = (d ++ [y]) ++ m := by simp
      rw [this]
      refine ih _ _ ?_
      split
      · exact h.trans (List.sublist_append_left _ _)
      · exact h.append (List.Sublist.refl _)
  exact this l [] [] (List.Sublist.refl _)
theorem nub_len {l : List Int} : (nubI l).length = l.length ↔ l.Nodup := by
  constructor
  · intro h
    rw [← (nub_sub l).eq_of_length h]
    exact nub_nd l
  · intro h
    exact ((List.perm_ext_iff_of_nodup (nub_nd l) h).mpr fun x => nub_mem l).length_eq
def zD (U : List Int) : List (Int × PyData) := U.map fun i => (i, .int 0)
theorem look_z (k : Int) : ∀ U : List Int, ((zD U).lookup k).isSome = decide (k ∈ U)
  | [] => by simp [zD]
  | i :: U => by
    have ih := look_z k U
    unfold zD at ih ⊢
    rw [List.map_cons, List.lookup_cons]
    by_cases h : k = i
    · simp [h]
    · have : (k == i) = false := by simpa using h
      simp only [this]
      rw [ih]
      simp [h]
theorem put_z (i : Int) (U : List Int) (hn : U.Nodup) : ∃ U', putI i (.int 0) (zD U) = zD U' ∧ (∀ x, x ∈ U' ↔ x ∈ U ∨ x = i) ∧ U'.Nodup := by
  by_cases h : i ∈ U
  · refine ⟨U, ?_, fun x => ⟨.inl, fun z => z.elim id fun e => e ▸ h⟩, hn⟩
    unfold putI
    rw [look_z, decide_eq_true h, if_pos rfl]
    unfold zD
    rw [List.map_map]
    refine List.map_congr_left fun x _ => ?_
    simp
  · refine ⟨U ++ [i], ?_, fun x => by simp, ?_⟩
    · unfold putI
      rw [look_z, decide_eq_false h]
      unfold zD
      rw [List.map_append]
      rfl
    · refine List.nodup_append.mpr ⟨hn, by simp, fun x hx y hy => ?_⟩
      simp at hy
      subst hy
      exact fun e => h (e ▸ hx)
theorem mk_z : ∀ (l U : List Int), U.Nodup → ∃ U', mkD (dI (zD U)) (l.map fun x => (x, PyData.int 0)) = dI (zD U') ∧ (∀ x, x ∈ U' ↔ x ∈ U ∨ x ∈ l) ∧ U'.Nodup
  | [], U, hn => ⟨U, rfl, fun x => by simp, hn⟩
  | i :: l, U, hn => by
    obtain ⟨U1, h1, h2, h3⟩ := put_z i U hn
    obtain ⟨U2, g1, g2, g3⟩ := mk_z l U1 h3
    refine ⟨U2, ?_, fun x => ?_, g3⟩
    · show mkD (putD (.int i) (.int 0) (dI (zD U))) (l.map fun x => (x, PyData.int 0)) = _
      rw [putD_dI, h1, g1]
    · rw [g2, h2, List.mem_cons, or_assoc]
theorem pairK_z : ∀ l : List Int, pairK (l.map fun x => .tuple [.int x, .int 0]) = some (l.map fun x => (x, .int 0))
  | [] => rfl
  | x :: xs => by
    rw [List.map_cons]
    show (pairK _).map _ = _
    rw [pairK_z xs]
    rfl
theorem f_dz (l : List Int) : ∃ U : List Int, bD .dict [.list (l.map fun x => .tuple [.int x, .int 0])] = some (.dict (dI (zD U))) ∧ U.Nodup ∧ (∀ x, x ∈ U ↔ x ∈ l) ∧ U.length = (nubI l).length := by
  obtain ⟨U, h1, h2, h3⟩ := mk_z l [] List.nodup_nil
  have hm : ∀ x, x ∈ U ↔ x ∈ l := fun x => by rw [h2]; simp
  refine ⟨U, ?_, h3, hm, ((List.perm_ext_iff_of_nodup h3 (nub_nd l)).mpr fun x => by rw [hm, nub_mem]).length_eq⟩
  show (pairK _).map _ = _
  rw [pairK_z]
  show some (PyData.dict (mkD [] (l.map fun x => (x, PyData.int 0)))) = _
  rw [show ([] : List (PyData × PyData)) = dI (zD []) from rfl, h1]
def rowOf : PyData → List Int
  | .tuple ds => ds.map toI
  | _ => []
def wayV (ls : List (Int × Int)) (a b : Int) (v : PyData) : Bool := numRowB ls.length v && wayU ls a b (rowOf v)
def p_isw : Pre := fun args sto Q => ∃ n ls a b v, args = [.dat (netD n ls), .dat (.int a), .dat (.int b), .dat v] ∧ (∀ ds, v = .tuple ds → ds.length ≤ 1000) ∧ Q ⟨false, .dat (.bool (wayV ls a b v))⟩ sto
theorem g_isw (S : SpecK) (d : DefI) (hnr : Has S "is_number_row" p_nrow) (hst : Has S "stations_on" p_st) (hb : d.body = b_is_way_to) (hN : d.N.length = 6) (hp : d.ps.length = 4) : Keeps1 S d p_isw := by
  rintro args sto Q ⟨n, ls, a, b, v, rfl, hv, h⟩
  refine ⟨hp.symm, ?_⟩
  rw [hb]
  unfold b_is_way_to
  have e0 : startE d.N [.dat (netD n ls), .dat (.int a), .dat (.int b), .dat v] = [some ⟨false, .dat (netD n ls)⟩, some ⟨false, .dat (.int a)⟩, some ⟨false, .dat (.int b)⟩, some ⟨false, .dat v⟩, none, none] := by simp [startE, hN, List.replicate]
  rw [e0]
  refine step fun K hK => ?_
  simp [net1]
  refine hnr _ _ _ ⟨v, ls.length, rfl, hv, ?_⟩
  unfold wayV at h
  cases hr : numRowB ls.length v with
  | false =>
    rw [hr] at h
    simp
    refine step fun K2 hK2 => ?_
    simp
    exact h
  | true =>
    rw [hr, Bool.true_and] at h
    obtain ⟨ds, rfl⟩ : ∃ ds, v = .tuple ds := by cases v <;> first | exact ⟨_, rfl⟩ | (simp [numRowB] at hr)
    have hl := hv ds rfl
    obtain ⟨b1, b2, b3⟩ := below_ints (show ds.all (fun d => isBelow d ls.length) = true from hr)
    rw [show rowOf (.tuple ds) = ds.map toI from rfl] at h
    have hlen : (ds.map toI).length = ds.length := List.length_map _
    rw [b1]
    generalize ds.map toI = way at *
    simp
    subst hK
    refine step fun K hK => ?_
    simp
    refine hst _ _ _ ⟨n, ls, a, way, rfl, b3, by omega, ?_⟩
    unfold wayU at h
    cases hs : stF ls a way with
    | none =>
      rw [hs] at h
      have e : stD none = .none := rfl
      rw [e]
      simp
      subst hK
      refine step fun K hK => ?_
      simp [nonD]
      exact h
    | some row =>
      rw [hs] at h
      obtain ⟨r, hrow, hrl⟩ := st_head hs
      have hrowl : row.length = way.length + 1 := by rw [hrow, List.length_cons, hrl]
      obtain ⟨x, hx1, hx2, hx3⟩ := at_neg1 (l := row) (by rw [hrow]; simp)
      have hlast : row.getLast? = some x := by rw [List.getLast?_eq_getElem?]; exact hx3
      have h : Q ⟨false, .dat (.bool (decide (row.getLast? = some b) && decide row.Nodup))⟩ sto := h
      rw [hlast] at h
      have e : stD (some row) = .tuple (row.map .int) := rfl
      rw [e]
      simp
      subst hK
      refine step fun K hK => ?_
      simp [nonD, hx2]
      by_cases hb2 : x = b
      · refine .inr ⟨hb2, ?_⟩
        subst hb2
        refine fold_inv (enc := PyData.int) (fun (r' : List Int) acc st => acc ++ r' = row ∧ st = ⟨[some ⟨false, .dat (netD n ls)⟩, some ⟨false, .dat (.int a)⟩, some ⟨false, .dat (.int x)⟩, some ⟨false, .dat (il way)⟩, some ⟨false, .dat (.tuple (row.map .int))⟩, none], sto⟩) ?_ ?_ ?_ row _ _ ⟨rfl, rfl⟩
        · rintro r' acc st ⟨h1, rfl⟩
          simp
        · rintro y r' acc st K5 ⟨h1, rfl⟩ hK5
          have hal : acc.length < 4000 := by
            have := congrArg List.length h1
            simp at this
            omega
          refine ⟨_, rfl, ?_⟩
          simp [hal]
          exact hK5 _ _ ⟨by simpa using h1, rfl⟩
        · rintro acc st ⟨h1, rfl⟩
          rw [List.append_nil] at h1
          subst h1
          refine ⟨_, rfl, ?_⟩
          simp
          by_cases hnd : acc.Nodup
          · have := nub_len.mpr hnd
            refine .inr ⟨by omega, ?_⟩
            simpa [hnd] using h
          · have : ¬ (nubI acc).length = acc.length := fun z => hnd (nub_len.mp z)
            refine .inl ⟨by omega, ?_⟩
            simpa [hnd] using h
      · refine .inl ⟨hb2, ?_⟩
        have : ¬ (some x = some b) := fun z => hb2 (by injection z)
        simpa [this] using h
end K07
end Ev
end

section
set_option Elab.async false
set_option linter.all false
set_option maxRecDepth 100000
set_option maxHeartbeats 8000000
/-! W5: the law's way; links that ways share. -/
namespace Ev
open PySem PySem.Spec PyProof.Rows L2
namespace K07
theorem g_lisw (S : SpecK) (d : DefI) (hnr : Has S "_law_is_row" p_lrow) (hst : Has S "_law_stations" p_st) (hb : d.body = b_law_is_way) (hN : d.N.length = 6) (hp : d.ps.length = 4) : Keeps1 S d p_isw := by
  rintro args sto Q ⟨n, ls, a, b, v, rfl, hv, h⟩
  refine ⟨hp.symm, ?_⟩
  rw [hb]
  unfold b_law_is_way
  have e0 : startE d.N [.dat (netD n ls), .dat (.int a), .dat (.int b), .dat v] = [some ⟨false, .dat (netD n ls)⟩, some ⟨false, .dat (.int a)⟩, some ⟨false, .dat (.int b)⟩, some ⟨false, .dat v⟩, none, none] := by simp [startE, hN, List.replicate]
  rw [e0]
  refine step fun K hK => ?_
  simp [net1]
  refine hnr _ _ _ ⟨v, ls.length, rfl, hv, ?_⟩
  unfold wayV at h
  cases hr : numRowB ls.length v with
  | false =>
    rw [hr] at h
    simp
    subst hK
    refine step fun K hK => ?_
    simp [nonD]
    exact h
  | true =>
    rw [hr, Bool.true_and] at h
    obtain ⟨ds, rfl⟩ : ∃ ds, v = .tuple ds := by cases v <;> first | exact ⟨_, rfl⟩ | (simp [numRowB] at hr)
    have hl := hv ds rfl
    obtain ⟨b1, b2, b3⟩ := below_ints (show ds.all (fun d => isBelow d ls.length) = true from hr)
    rw [show rowOf (.tuple ds) = ds.map toI from rfl] at h
    have hlen : (ds.map toI).length = ds.length := List.length_map _
    rw [b1]
    generalize ds.map toI = way at *
    simp
    refine hst _ _ _ ⟨n, ls, a, way, rfl, b3, by omega, ?_⟩
    unfold wayU at h
    cases hs : stF ls a way with
    | none =>
      rw [hs] at h
      have e : stD none = .none := rfl
      rw [e]
      simp
      subst hK
      refine step fun K hK => ?_
      simp [nonD]
      exact h
    | some row =>
      rw [hs] at h
      obtain ⟨r, hrow, hrl⟩ := st_head hs
      have hrowl : row.length = way.length + 1 := by rw [hrow, List.length_cons, hrl]
      obtain ⟨x, hx1, hx2, hx3⟩ := at_neg1 (l := row) (by rw [hrow]; simp)
      have hlast : row.getLast? = some x := by rw [List.getLast?_eq_getElem?]; exact hx3
      have h : Q ⟨false, .dat (.bool (decide (row.getLast? = some b) && decide row.Nodup))⟩ sto := h
      rw [hlast] at h
      have e : stD (some row) = .tuple (row.map .int) := rfl
      rw [e]
      simp
      subst hK
      refine step fun K hK => ?_
      simp [nonD, hx2]
      by_cases hb2 : x = b
      · refine .inr ⟨hb2, ?_⟩
        subst hb2
        refine comp_map (enc := PyData.int) (fun y => .tuple [.int y, .int 0]) (by simp) (by rw [SL_eq]; omega) (fun y _ K5 hK5 => ⟨_, rfl, ?_⟩) ?_
        · simp [SL_eq]
          exact hK5
        obtain ⟨U, d1, d2, d3, d4⟩ := f_dz row
        have hod : ∀ es, outD (.dict es) = ⟨.fre, .dat (.dict es)⟩ := fun _ => rfl
        have hdl : bD .len [.dict (dI (zD U))] = some (.int (U.length : Nat)) := by
          show some (PyData.int ((dI (zD U)).length : Nat)) = _
          unfold dI zD
          rw [List.length_map, List.length_map]
        simp [d1, hod, hdl]
        by_cases hnd : row.Nodup
        · have := nub_len.mpr hnd
          refine .inr ⟨by omega, ?_⟩
          simpa [hnd] using h
        · have : ¬ (nubI row).length = row.length := fun z => hnd (nub_len.mp z)
          refine .inl ⟨by omega, ?_⟩
          simpa [hnd] using h
      · refine .inl ⟨hb2, ?_⟩
        have : ¬ (some x = some b) := fun z => hb2 (by injection z)
        simpa [this] using h
def p_lsh : Pre := fun args sto Q => ∃ rows : List (List Int), args = [.dat (.tuple (rows.map il))] ∧ (∀ r ∈ rows, r.length ≤ 100) ∧ rows.length ≤ 100 ∧ Q ⟨false, .dat (minO (twP rows))⟩ sto
theorem ret_min {S : SpecK} {i : Nat} {l : List Int} {E : List (Option EV)} {o : Bool} {sto : List SObj} {Q : EV → List SObj → Prop} (hi : E[i]? = some (some ⟨o, .dat (.list (l.map .int))⟩)) (h : Q ⟨false, .dat (minO l)⟩ sto) :
    wpSs S (.cons (.ret (.ife (.cmp .NotEq (.var i) (.lst .nil)) (.bcl .min (.cons (.var i) .nil)) .non)) .nil) (ends Q) ⟨E, sto⟩ := by
  refine step fun K hK => ?_
  unfold minO at h
  have hnn := ne_nil l
  by_cases he : l = []
  · rw [if_pos he] at h
    subst he
    cases o
    all_goals
      simp at hi hnn
      simp [hi]
      exact .inl ⟨hnn, h⟩
  · rw [if_neg he] at h
    have hfm := f_minL he
    cases o
    all_goals
      simp [hi, hnn, he, hfm]
      exact h
theorem g_lsh (S : SpecK) (d : DefI) (hb : d.body = b_law_shared) (hN : d.N.length = 6) (hp : d.ps.length = 1) : Keeps1 S d p_lsh := by
  rintro args sto Q ⟨rows, rfl, hr, hrl, h⟩
  refine ⟨hp.symm, ?_⟩
  rw [hb]
  unfold b_law_shared
  have e0 : startE d.N [.dat (.tuple (rows.map il))] = [some ⟨false, .dat (.tuple (rows.map il))⟩, none, none, none, none, none] := by simp [startE, hN, List.replicate]
  rw [e0]
  generalize hb2 : b_law_shared_2 = b2
  refine step fun K hK => ?_
  simp
  subst hK
  refine step fun K hK => ?_
  simp
  rw [show (0 : Int) = ((0 : Nat) : Int) from rfl, enum_map il rows _ 0 rfl]
  refine loop_inv (enc := fun p : List Int × Nat => PyData.tuple [.int (p.2 : Int), il p.1]) (fun (r : List (List Int × Nat)) s => ∃ (k : Nat) (F : List Int) (o : Bool) (e2 e3 e4 : Option EV), s = ⟨[some ⟨false, .dat (.tuple (rows.map il))⟩, some ⟨o, .dat (.list (F.map .int))⟩, e2, e3, e4, none], sto⟩ ∧ r = (rows.drop k).zipIdx k ∧ k ≤ rows.length ∧ F ++ twP (rows.drop k) = twP rows ∧ F.length ≤ k * 10000) ?_ ?_ _ _ ⟨0, [], true, none, none, none, rfl, rfl, by omega, rfl, by simp⟩
  · rintro p r st K2 ⟨k, F, o, e2, e3, e4, rfl, hp, hk, hF, hFl⟩ hK2
    refine ⟨_, rfl, ?_⟩
    have hk2 : k < rows.length := by
      by_cases e : k < rows.length
      · exact e
      · rw [List.drop_eq_nil_of_le (by omega)] at hp
        cases hp
    rw [List.drop_eq_getElem_cons hk2, List.zipIdx_cons] at hp
    injection hp with hp1 hp2
    subst hp1
    rw [List.drop_eq_getElem_cons hk2, twP_cons] at hF
    have hrow := hr rows[k] (List.getElem_mem _)
    generalize rows[k] = row at *
    subst hb2
    unfold b_law_shared_2
    generalize hb1 : b_law_shared_1 = b1
    refine step fun K3 hK3 => ?_
    simp
    rw [slc_fromT (by omega), show ((k : Int) + 1).toNat = k + 1 by omega, ← List.map_drop]
    simp
    rw [← List.map_drop]
    have hdr : (rows.drop (k + 1)).length ≤ 100 := by rw [List.length_drop]; omega
    generalize hD : rows.drop (k + 1) = D at *
    refine loop_inv (enc := il) (fun (r' : List (List Int)) s => ∃ (F' : List Int) (o : Bool) (e4 : Option EV), s = ⟨[some ⟨false, .dat (.tuple (rows.map il))⟩, some ⟨o, .dat (.list (F'.map .int))⟩, some ⟨false, .dat (.int (k : Int))⟩, some ⟨false, .dat (il row)⟩, e4, none], sto⟩ ∧ F' ++ ((r'.flatMap fun late => row.filter fun x => decide (x ∈ late)) ++ twP D) = twP rows ∧ F'.length + r'.length * 100 ≤ (k + 1) * 10000) ?_ ?_ D _ ⟨F, o, e4, rfl, hF, by omega⟩
    · rintro late r' st K4 ⟨F', o, e4, rfl, hF', hl'⟩ hK4
      refine ⟨_, rfl, ?_⟩
      subst hb1
      unfold b_law_shared_1
      rw [List.flatMap_cons] at hF'
      rw [List.length_cons] at hl'
      rw [show il row = .tuple (row.map .int) from rfl] at hK4 ⊢
      have hfl : (row.filter fun x => decide (x ∈ late)).length ≤ row.length := List.length_filter_le _ _
      refine step fun K5 hK5 => ?_
      have hgo : K5 ⟨[some ⟨false, .dat (.tuple (rows.map il))⟩, some ⟨true, .dat (.list ((F' ++ row.filter fun x => decide (x ∈ late)).map .int))⟩, some ⟨false, .dat (.int (k : Int))⟩, some ⟨false, .dat (.tuple (row.map .int))⟩, some ⟨false, .dat (il late)⟩, none], sto⟩ := by
        subst hK5
        refine Ev.last (S := S) ?_
        exact hK4 _ ⟨F' ++ row.filter fun x => decide (x ∈ late), true, some ⟨false, .dat (il late)⟩, rfl, by simpa [List.append_assoc] using hF', by rw [List.length_append]; omega⟩
      rw [List.map_append] at hgo
      cases o
      all_goals
        simp
        refine comp_filter (enc := PyData.int) (fun x => decide (x ∈ late)) PyData.int (by simp) (by rw [SL_eq]; omega) (fun x _ K6 hK6 => ⟨_, rfl, ?_⟩) ?_
        · have hin := in_il x late
          by_cases hc : x ∈ late
          · simp [c_in, hin, hc] at hK6 ⊢
            exact hK6
          · simp [c_in, hin, hc] at hK6 ⊢
            exact hK6
        · generalize row.filter (fun x => decide (x ∈ late)) = G at *
          have hadd : binD .Add (.list (F'.map PyData.int)) (.list (G.map PyData.int)) = some (.list (F'.map PyData.int ++ G.map PyData.int)) := n_addL (by rw [List.length_map, List.length_map, SL_eq]; omega)
          simp [hadd]
          exact hgo
    · rintro st ⟨F', o, e4, rfl, hF', hl'⟩
      show K3 _
      subst hK3
      refine Ev.last (S := S) ?_
      exact hK2 _ ⟨k + 1, F', o, _, _, _, rfl, by rw [hD]; exact hp2, by omega, by rw [hD]; simpa using hF', by simpa using hl'⟩
  · rintro st ⟨k, F, o, e2, e3, e4, rfl, hp, hk, hF, hFl⟩
    have hke : k = rows.length := by
      by_cases e : k < rows.length
      · rw [List.drop_eq_getElem_cons e, List.zipIdx_cons] at hp
        cases hp
      · omega
    subst hke
    rw [List.drop_eq_nil_of_le (Nat.le_refl _)] at hF
    have hF : F = twP rows := by simpa [twP] using hF
    subst hF
    show K _
    subst hK
    exact ret_min rfl h
end K07
end Ev
end

section
set_option Elab.async false
set_option linter.all false
set_option maxRecDepth 100000
set_option maxHeartbeats 8000000
/-! W6: the first link that ways share. -/
namespace Ev
open PySem PySem.Spec PyProof.Rows L2
namespace K07
theorem f_any (l : List Bool) : bD .any [.list (l.map PyData.bool)] = some (.bool (l.any id)) := by
  show (boolsOf (l.map PyData.bool)).map (fun bs => PyData.bool (bs.any id)) = _
  rw [boolsOf_map]; rfl
theorem sh_cons (row : List Int) (r : List (List Int)) : shP (row :: r) = row.filter (fun x => r.any fun late => decide (x ∈ late)) ++ shP r := rfl
theorem sh_len : ∀ {ws : List (List Int)}, (∀ r ∈ ws, r.length ≤ 100) → (shP ws).length ≤ ws.length * 100
  | [], _ => by simp [shP]
  | r :: ws, h => by
    have h1 := h r List.mem_cons_self
    have h2 := sh_len (ws := ws) fun x hx => h x (List.mem_cons_of_mem _ hx)
    have h3 : (r.filter fun x => ws.any fun late => decide (x ∈ late)).length ≤ r.length := List.length_filter_le _ _
    rw [sh_cons, List.length_append, List.length_cons]
    omega
theorem g_fsh (S : SpecK) (d : DefI) (hb : d.body = b_first_shared) (hN : d.N.length = 6) (hp : d.ps.length = 1) : Keeps1 S d p_lsh := by
  rintro args sto Q ⟨rows, rfl, hr, hrl, h⟩
  refine ⟨hp.symm, ?_⟩
  rw [hb]
  unfold b_first_shared
  have e0 : startE d.N [.dat (.tuple (rows.map il))] = [some ⟨false, .dat (.tuple (rows.map il))⟩, none, none, none, none, none] := by simp [startE, hN, List.replicate]
  rw [e0]
  have hmin : minO (shP rows) = minO (twP rows) := minO_same fun x => sh_mem
  rw [← hmin] at h
  have hsl := sh_len hr
  refine step fun K hK => ?_
  simp
  rw [show (0 : Int) = ((0 : Nat) : Int) from rfl, enum_map il rows _ 0 rfl]
  refine compL_inv (enc := fun p : List Int × Nat => PyData.tuple [.int (p.2 : Int), il p.1]) (fun (r : List (List Int × Nat)) acc s => ∃ (k : Nat) (F : List Int), r = (rows.drop k).zipIdx k ∧ k ≤ rows.length ∧ acc = F.map PyData.int ∧ F ++ shP (rows.drop k) = shP rows ∧ s = ⟨[some ⟨false, .dat (.tuple (rows.map il))⟩, none, none, none, none, none], sto⟩) ?_ ?_ ?_ _ _ _ ⟨0, [], rfl, by omega, rfl, rfl, rfl⟩
  · rintro r acc st ⟨k, F, _, _, _, _, rfl⟩
    simp
  · rintro p r acc st K2 ⟨k, F, hp, hk, rfl, hF, rfl⟩ hK2
    have hk2 : k < rows.length := by
      by_cases e : k < rows.length
      · exact e
      · rw [List.drop_eq_nil_of_le (by omega)] at hp
        cases hp
    rw [List.drop_eq_getElem_cons hk2, List.zipIdx_cons] at hp
    injection hp with hp1 hp2
    subst hp1
    rw [List.drop_eq_getElem_cons hk2, sh_cons] at hF
    have hrow := hr rows[k] (List.getElem_mem _)
    generalize rows[k] = row at *
    have hdr : (rows.drop (k + 1)).length ≤ 100 := by rw [List.length_drop]; omega
    have hFl : F.length + row.length ≤ 20000 := by
      have := congrArg List.length hF
      simp at this
      omega
    refine ⟨_, rfl, ?_⟩
    rw [show il row = .tuple (row.map .int) from rfl]
    simp
    refine comp_inv (enc := PyData.int) (fun (r' : List Int) acc s => ∃ G : List Int, acc = G.map PyData.int ∧ G ++ r'.filter (fun x => (rows.drop (k + 1)).any fun late => decide (x ∈ late)) = F ++ row.filter (fun x => (rows.drop (k + 1)).any fun late => decide (x ∈ late)) ∧ G.length + r'.length ≤ F.length + row.length ∧ s = ⟨[some ⟨false, .dat (.tuple (rows.map il))⟩, none, some ⟨false, .dat (.int (k : Int))⟩, some ⟨false, .dat (.tuple (row.map .int))⟩, none, none], sto⟩) ?_ ?_ ?_ ?_ row _ _ ⟨F, rfl, rfl, by omega, rfl⟩
    · rintro r' acc s ⟨G, _, _, _, rfl⟩
      simp
    · rintro x r' acc s ⟨G, rfl, _, hl, rfl⟩
      rw [List.length_map, SL_eq]
      simp at hl
      omega
    · rintro x r' acc s K3 ⟨G, rfl, hG, hl, rfl⟩ hK3
      refine ⟨_, rfl, ?_⟩
      rw [List.filter_cons] at hG
      simp
      rw [slc_fromT (by omega), show ((k : Int) + 1).toNat = k + 1 by omega, ← List.map_drop]
      simp
      rw [← List.map_drop]
      generalize rows.drop (k + 1) = D at *
      refine comp_map (enc := il) (fun late => .bool (decide (x ∈ late))) (by simp) (by rw [SL_eq]; omega) (fun late _ K6 hK6 => ⟨_, rfl, ?_⟩) ?_
      · have hin := in_il x late
        by_cases hc : x ∈ late
        · simp [c_in, hin, hc] at hK6 ⊢
          exact hK6
        · simp [c_in, hin, hc] at hK6 ⊢
          exact hK6
      rw [show D.map (fun late => PyData.bool (decide (x ∈ late))) = (D.map fun late => decide (x ∈ late)).map PyData.bool by rw [List.map_map]; rfl]
      have hfa := f_any (D.map fun late => decide (x ∈ late))
      rw [show (D.map fun late => decide (x ∈ late)).any id = D.any fun late => decide (x ∈ late) by simp [List.any_map, Function.comp_def]] at hfa
      cases hb : D.any fun late => decide (x ∈ late) with
      | false =>
        rw [hb] at hfa
        rw [hb] at hG
        refine ⟨_, hfa, .inl ⟨rfl, ?_⟩⟩
        refine hK3 none _ ⟨G, rfl, by simpa using hG, by simp at hl; omega, ?_⟩
        rfl
      | true =>
        rw [hb] at hfa
        rw [hb] at hG
        refine ⟨_, hfa, .inr ⟨rfl, ?_⟩⟩
        simp
        refine hK3 (some (.int x)) _ ⟨G ++ [x], by simp, by simpa using hG, by simp at hl ⊢; omega, rfl⟩
    · rintro acc s ⟨G, rfl, hG, hl, rfl⟩
      have hG : G = F ++ row.filter (fun x => (rows.drop (k + 1)).any fun late => decide (x ∈ late)) := by simpa using hG
      refine hK2 _ _ ⟨k + 1, G, hp2, by omega, rfl, by rw [hG, List.append_assoc]; exact hF, rfl⟩
  · rintro acc st ⟨k, F, hp, hk, rfl, hF, rfl⟩
    have hke : k = rows.length := by
      by_cases e : k < rows.length
      · rw [List.drop_eq_getElem_cons e, List.zipIdx_cons] at hp
        cases hp
      · omega
    subst hke
    rw [List.drop_eq_nil_of_le (Nat.le_refl _)] at hF
    have hF : F = shP rows := by simpa [shP] using hF
    subst hF
    simp
    subst hK
    exact ret_min rfl h
end K07
end Ev
end

section
set_option Elab.async false
set_option linter.all false
set_option maxRecDepth 100000
set_option maxHeartbeats 8000000
/-! W7: ways apart; drawn nets, stations, ways. -/
namespace Ev
open PySem PySem.Spec PyProof.Rows L2
namespace K07
def p_apart : Pre := fun args sto Q => ∃ rows : List (List Int), args = [.dat (.tuple (rows.map il))] ∧ (∀ r ∈ rows, r.length ≤ 100) ∧ rows.length ≤ 100 ∧ Q ⟨false, .dat (.bool (nonD (minO (twP rows))))⟩ sto
theorem g_apart (S : SpecK) (d : DefI) (hf : Has S "first_shared" p_lsh) (hb : d.body = b_are_apart) (hN : d.N.length = 1) (hp : d.ps.length = 1) : Keeps1 S d p_apart := by
  rintro args sto Q ⟨rows, rfl, hr, hrl, h⟩
  refine ⟨hp.symm, ?_⟩
  rw [hb]
  unfold b_are_apart
  have e0 : startE d.N [.dat (.tuple (rows.map il))] = [some ⟨false, .dat (.tuple (rows.map il))⟩] := by simp [startE, hN, List.replicate]
  rw [e0]
  refine step fun K hK => ?_
  simp
  refine hf _ _ _ ⟨rows, rfl, hr, hrl, ?_⟩
  generalize minO (twP rows) = v at *
  cases hv : nonD v with
  | false =>
    rw [hv] at h
    cases hsc : scalarV (.dat v) <;> simp [hsc, hv] <;> exact h
  | true =>
    rw [hv] at h
    cases hsc : scalarV (.dat v) <;> simp [hsc, hv] <;> exact h
def p_of : Pre := fun args sto Q => ∃ (d : PyData) (ds : List PyData), args = [.ref 1, .dat d] ∧ seqD d = some ds ∧ 0 < ds.length ∧ ds.length ≤ 100000 ∧ SrcOk sto ∧ ∀ x ∈ ds, ∀ sto', SrcOk sto' → Q ⟨false, .dat x⟩ sto'
theorem g_of (S : SpecK) (d : DefI) (hb : d.body = b_law_of) (hN : d.N.length = 2) (hp : d.ps.length = 2) (hpick : Has S "_law_pick" p_pick) : Keeps1 S d p_of := by
  rintro args sto Q ⟨x, ds, rfl, hx, h0, h1, hs, h⟩
  refine ⟨hp.symm, ?_⟩
  rw [hb]
  unfold b_law_of
  have e0 : startE d.N [.ref 1, .dat x] = [some ⟨false, .ref 1⟩, some ⟨false, .dat x⟩] := by simp [startE, hN, List.replicate]
  rw [e0]
  have hlen : bD .len [x] = some (.int ds.length) := by
    cases x <;> simp [seqD] at hx <;> subst hx <;> rfl
  refine step fun K hK => ?_
  simp [hlen]
  refine hpick _ _ _ ⟨ds.length, rfl, by omega, hs, fun k sto1 hs1 hk0 hk1 => ?_⟩
  have hk : k.toNat < ds.length := by omega
  have hix : idxD x (.int k) = some ds[k.toNat] := by
    have := at_pos (xs := ds) hk0 (List.getElem?_eq_getElem hk)
    cases x <;> simp [seqD] at hx <;> subst hx <;> exact this
  simp [hix]
  exact h _ (List.getElem_mem _) _ hs1
def p_net : Pre := fun args sto Q => ∃ most links : Int, args = [.ref 1, .dat (.int most), .dat (.int links)] ∧ 2 ≤ most ∧ most ≤ 100 ∧ 0 ≤ links ∧ links ≤ 1000 ∧ SrcOk sto ∧ ∀ n ls sto', SrcOk sto' → 2 ≤ n → n ≤ most → (ls.length : Int) ≤ links → NetOk n ls → Q ⟨false, .dat (netD n ls)⟩ sto'
theorem g_net (S : SpecK) (d : DefI) (hpick : Has S "_law_pick" p_pick) (hb : d.body = b_law_net) (hN : d.N.length = 7) (hp : d.ps.length = 3) : Keeps1 S d p_net := by
  rintro args sto Q ⟨most, links, rfl, h1, h2, h3, h4, hs, h⟩
  refine ⟨hp.symm, ?_⟩
  rw [hb]
  unfold b_law_net
  have e0 : startE d.N [.ref 1, .dat (.int most), .dat (.int links)] = [some ⟨false, .ref 1⟩, some ⟨false, .dat (.int most)⟩, some ⟨false, .dat (.int links)⟩, none, none, none, none] := by simp [startE, hN, List.replicate]
  rw [e0]
  generalize hb1 : b_law_net_1 = b1
  refine step fun K hK => ?_
  simp
  refine hpick _ _ _ ⟨most - 1, rfl, by omega, hs, fun k sto1 hs1 hk0 hk1 => ?_⟩
  obtain ⟨n, hn⟩ : ∃ n : Int, 2 + k = n := ⟨_, rfl⟩
  have hn1 : 2 ≤ n := by omega
  have hn2 : n ≤ most := by omega
  simp [hn]
  subst hK
  refine step fun K hK => ?_
  simp
  refine hpick _ _ _ ⟨links + 1, rfl, by omega, hs1, fun t sto2 hs2 ht0 ht1 => ?_⟩
  simp
  refine ⟨⟨by omega, by omega⟩, ?_⟩
  rw [rngI_eq]
  refine loop_inv (fun (r : List Int) st => ∃ (ls : List (Int × Int)) (e5 e6 : Option EV) (sto : List SObj), st = ⟨[some ⟨false, .ref 1⟩, some ⟨false, .dat (.int most)⟩, some ⟨false, .dat (.int links)⟩, some ⟨false, .dat (.int n)⟩, some ⟨true, .dat (.list (ls.map lk))⟩, e5, e6], sto⟩ ∧ SrcOk sto ∧ NetOk n ls ∧ ls.length + r.length = t.toNat) ?_ ?_ (rngI t) _ ⟨[], none, none, sto2, rfl, hs2, fun p hp => (by cases hp), by rw [rngI_len]; simp⟩
  · rintro lap r st K2 ⟨ls, e5, e6, sto, rfl, hs, hno, hl⟩ hK2
    refine ⟨_, rfl, ?_⟩
    subst hb1
    unfold b_law_net_1
    rw [List.length_cons] at hl
    refine step fun K3 hK3 => ?_
    simp
    refine hpick _ _ _ ⟨n - 1, rfl, by omega, hs, fun a sto3 hs3 ha0 ha1 => ?_⟩
    have ha : a < n - 1 := by omega
    simp
    subst hK3
    refine step fun K3 hK3 => ?_
    simp
    refine hpick _ _ _ ⟨n - 1 - a, rfl, by omega, hs3, fun c sto4 hs4 hc0 hc1 => ?_⟩
    have hc : c < n - 1 - a := by omega
    simp [SL_eq]
    rw [v_appS (ds := ls.map lk) rfl (by rw [List.length_map, SL_eq]; omega)]
    simp
    subst hK3
    refine Ev.last (S := S) ?_
    have := hK2 _ ⟨ls ++ [(a, a + 1 + c)], some ⟨false, .dat (.int lap)⟩, some ⟨false, .dat (.int a)⟩, sto4, rfl, hs4, fun p hp => (List.mem_append.mp hp).elim (hno p) fun q => by
      simp at q
      subst q
      exact ⟨ha0, by simp only; omega, by simp only; omega⟩, by simp; omega⟩
    rw [List.map_append] at this
    exact this
  · rintro st ⟨ls, e5, e6, sto, rfl, hs, hno, hl⟩
    show K _
    subst hK
    refine step fun K hK => ?_
    have hll : ls.length ≤ 16777216 := by simp at hl; omega
    simp
    refine ⟨_, f_srtL (sortOk_lk hll), ?_⟩
    rw [srt_map]
    simp [SL_eq]
    refine h n (srtBy lk ls) sto hs hn1 hn2 ?_ fun p hp => hno p ((srtBy_perm lk ls).mem_iff.mp hp)
    rw [(srtBy_perm lk ls).length_eq]
    simp at hl
    omega
def p_two : Pre := fun args sto Q => ∃ n ls, args = [.ref 1, .dat (netD n ls)] ∧ 2 ≤ n ∧ n ≤ 1000 ∧ SrcOk sto ∧ ∀ a b sto', SrcOk sto' → (0 ≤ a ∧ a < n) → (0 ≤ b ∧ b < n) → a ≠ b → Q ⟨false, .dat (.tuple [.int a, .int b])⟩ sto'
theorem g_two (S : SpecK) (d : DefI) (hmix : Has S "_law_any_order" p_mixed) (hb : d.body = b_law_two) (hN : d.N.length = 2) (hp : d.ps.length = 2) : Keeps1 S d p_two := by
  rintro args sto Q ⟨n, ls, rfl, h1, h2, hs, h⟩
  refine ⟨hp.symm, ?_⟩
  rw [hb]
  unfold b_law_two
  have e0 : startE d.N [.ref 1, .dat (netD n ls)] = [some ⟨false, .ref 1⟩, some ⟨false, .dat (netD n ls)⟩] := by simp [startE, hN, List.replicate]
  rw [e0]
  refine step fun K hK => ?_
  simp [net0]
  refine ⟨⟨by omega, by omega⟩, ?_⟩
  refine hmix _ _ _ ⟨.list (rngD 0 n.toNat), rngD 0 n.toNat, rfl, rfl, by rw [rngI_eq, List.length_map, rngI_len]; omega, hs, fun rr sto2 hs2 hr => ?_⟩
  obtain ⟨l, rfl, hnd2, hll, hlm, _⟩ := mix_rng hr
  match l, hnd2, hll, hlm with
  | [], _, hll, _ => simp at hll; omega
  | [_], _, hll, _ => simp at hll; omega
  | a :: b :: l, hnd2, hll, hlm =>
  simp [slc_to]
  have hab : a ≠ b := fun e => by
    rw [e] at hnd2
    simp at hnd2
  exact h a b _ hs2 (hlm a (by simp)) (hlm b (by simp)) hab
end K07
end Ev
end

section
set_option Elab.async false
set_option linter.all false
set_option maxRecDepth 100000
set_option maxHeartbeats 8000000
/-! W8: drawn ways. -/
namespace Ev
open PySem PySem.Spec PyProof.Rows L2
namespace K07
def goOn (here : Int) (met : List Int) (q : (Int × Int) × Nat) : Bool := decide (here = q.1.1 ∨ here = q.1.2) && !decide (q.1.1 + q.1.2 - here ∈ met)
def p_dw : Pre := fun args sto Q => ∃ n ls a b, args = [.ref 1, .dat (netD n ls), .dat (.int a), .dat (.int b)] ∧ 0 ≤ n ∧ n ≤ 100 ∧ ls.length ≤ 1000 ∧ SrcOk sto ∧ ∀ way sto', SrcOk sto' → (∀ i ∈ way, 0 ≤ i ∧ i < (ls.length : Int)) → way.length ≤ n.toNat → Q ⟨false, .dat (il way)⟩ sto'
theorem g_dw (S : SpecK) (d : DefI) (hof : Has S "_law_of" p_of) (hb : d.body = b_law_drawn_way) (hN : d.N.length = 13) (hp : d.ps.length = 4) : Keeps1 S d p_dw := by
  rintro args sto Q ⟨n, ls, a, b, rfl, hn0, hn1, hlsl, hs, h⟩
  refine ⟨hp.symm, ?_⟩
  rw [hb]
  unfold b_law_drawn_way
  have e0 : startE d.N [.ref 1, .dat (netD n ls), .dat (.int a), .dat (.int b)] = [some ⟨false, .ref 1⟩, some ⟨false, .dat (netD n ls)⟩, some ⟨false, .dat (.int a)⟩, some ⟨false, .dat (.int b)⟩, none, none, none, none, none, none, none, none, none] := by simp [startE, hN, List.replicate]
  rw [e0]
  generalize hb1 : b_law_drawn_way_1 = b1
  refine step fun K hK => ?_
  simp [SL_eq]
  subst hK
  refine step fun K hK => ?_
  simp [net0]
  refine ⟨⟨by omega, by omega⟩, ?_⟩
  rw [rngI_eq]
  refine loop_inv (fun (r : List Int) st => ∃ (here : Int) (met way : List Int) (o6 : Bool) (e7 e8 e9 : Option EV) (sto : List SObj), st = ⟨[some ⟨false, .ref 1⟩, some ⟨false, .dat (netD n ls)⟩, some ⟨false, .dat (.int a)⟩, some ⟨false, .dat (.int b)⟩, some ⟨false, .dat (.int here)⟩, some ⟨true, .dat (.list (met.map .int))⟩, some ⟨false, .dat (.tuple (way.map .int))⟩, e7, e8, e9, none, none, none], sto⟩ ∧ SrcOk sto ∧ (∀ i ∈ way, 0 ≤ i ∧ i < (ls.length : Int)) ∧ way.length + r.length ≤ n.toNat ∧ met.length + r.length ≤ n.toNat + 1) ?_ ?_ (rngI n) _ ⟨a, [a], [], false, none, none, none, sto, rfl, hs, fun i hi => (by cases hi), by rw [rngI_len]; simp, by rw [rngI_len]; simp; omega⟩
  · rintro lap r st K2 ⟨here, met, way, o6, e7, e8, e9, sto, rfl, hs, hw, hl, hml⟩ hK2
    refine ⟨_, rfl, ?_⟩
    subst hb1
    unfold b_law_drawn_way_1
    rw [List.length_cons] at hl hml
    refine step fun K3 hK3 => ?_
    simp [net1]
    rw [show (0 : Int) = ((0 : Nat) : Int) from rfl, enum_map lk ls _ 0 rfl]
    refine comp_filter (enc := fun p : (Int × Int) × Nat => PyData.tuple [.int (p.2 : Int), lk p.1]) (goOn here met) (fun p => .int (p.2 : Int)) (by simp) (by rw [List.length_zipIdx, SL_eq]; omega) (fun p _ K5 hK5 => ⟨_, rfl, ?_⟩) ?_
    · obtain ⟨⟨x, y⟩, k⟩ := p
      have h1 := in_lk here (x, y)
      have h2 := in_ilL (x + y - here) met
      unfold goOn at hK5
      rw [show lk (x, y) = .tuple [.int x, .int y] from rfl] at *
      by_cases c1 : here = x ∨ here = y
      · by_cases c2 : x + y - here ∈ met
        · simp [h1, c_nin, h2, c1, c2, SL_eq] at hK5 ⊢
          exact hK5
        · simp [h1, c_nin, h2, c1, c2, SL_eq] at hK5 ⊢
          exact hK5
      · simp [h1, c_nin, h2, c1, SL_eq] at hK5 ⊢
        exact hK5
    obtain ⟨T, hT, hTm⟩ : ∃ T : List Int, ((ls.zipIdx 0).filter (goOn here met)).map (fun p => PyData.int (p.2 : Int)) = T.map .int ∧ T.length ≤ 1000 ∧ ∀ i ∈ T, 0 ≤ i ∧ i < (ls.length : Int) := by
      refine ⟨((ls.zipIdx 0).filter (goOn here met)).map fun p => (p.2 : Int), by rw [List.map_map]; rfl, ?_, ?_⟩
      · have : ((ls.zipIdx 0).filter (goOn here met)).length ≤ (ls.zipIdx 0).length := List.length_filter_le _ _
        rw [List.length_zipIdx] at this
        rw [List.length_map]
        omega
      · intro i hi
        obtain ⟨p, hp, rfl⟩ := List.mem_map.mp hi
        have hp := (List.mem_filter.mp hp).1
        have := List.snd_lt_of_mem_zipIdx hp
        omega
    rw [hT]
    simp
    subst hK3
    refine step fun K3 hK3 => ?_
    have hnn := ne_nil T
    have hgo : ∀ (here' : Int) (met' way' : List Int) (e9' : Option EV) (sto' : List SObj), SrcOk sto' → (∀ i ∈ way', 0 ≤ i ∧ i < (ls.length : Int)) → way'.length ≤ way.length + 1 → met'.length ≤ met.length + 1 → K3 ⟨[some ⟨false, .ref 1⟩, some ⟨false, .dat (netD n ls)⟩, some ⟨false, .dat (.int a)⟩, some ⟨false, .dat (.int b)⟩, some ⟨false, .dat (.int here')⟩, some ⟨true, .dat (.list (met'.map .int))⟩, some ⟨false, .dat (.tuple (way'.map .int))⟩, some ⟨false, .dat (.int lap)⟩, some ⟨true, .dat (.list (T.map .int))⟩, e9', none, none, none], sto'⟩ := by
      intro here' met' way' e9' sto' hs' hw' hl1 hl2
      subst hK3
      refine Ev.last (S := S) ?_
      exact hK2 _ ⟨here', met', way', false, _, _, e9', sto', rfl, hs', hw', by omega, by omega⟩
    by_cases c1 : here = b
    · subst c1
      simp
      exact hgo here met way e9 sto hs hw (by omega) (by omega)
    · by_cases c2 : T = []
      · rw [c2] at hnn hgo ⊢
        simp at hnn hgo
        simp [c1, hnn]
        exact hgo here met way e9 sto hs hw (by omega) (by omega)
      · simp [c1, hnn, c2]
        refine step fun K4 hK4 => ?_
        simp
        have hTp : 0 < T.length := by
          cases T with
          | nil => exact absurd rfl c2
          | cons _ _ => simp
        refine hof _ _ _ ⟨.list (T.map .int), T.map .int, rfl, rfl, by rw [List.length_map]; exact hTp, by rw [List.length_map]; omega, hs, fun x hx sto1 hs1 => ?_⟩
        obtain ⟨i, hi, rfl⟩ := List.mem_map.mp hx
        obtain ⟨i0, i1⟩ := hTm.2 i hi
        obtain ⟨q, hq, q1, q2⟩ := at_lks i0 i1
        simp
        subst hK4
        refine step fun K4 hK4 => ?_
        simp [net1, q2, lk_sum]
        subst hK4
        refine step fun K4 hK4 => ?_
        have ha1 : binD .Add (.tuple (way.map PyData.int)) (.tuple [.int i]) = some (.tuple (way.map PyData.int ++ [.int i])) := n_addT (by rw [List.length_map, SL_eq]; simp; omega)
        have ha2 : binD .Add (.list (met.map PyData.int)) (.list [.int (q.1 + q.2 - here)]) = some (.list (met.map PyData.int ++ [.int (q.1 + q.2 - here)])) := n_addL (by rw [List.length_map, SL_eq]; simp; omega)
        simp [ha1, ha2, SL_eq]
        subst hK4
        refine Ev.last (S := S) ?_
        have := hgo (q.1 + q.2 - here) (met ++ [q.1 + q.2 - here]) (way ++ [i]) (some ⟨false, .dat (.int i)⟩) sto1 hs1 (fun j hj => (List.mem_append.mp hj).elim (hw j) fun e => by
          simp at e
          subst e
          exact ⟨i0, i1⟩) (by simp) (by simp)
        rw [List.map_append, List.map_append] at this
        exact this
  · rintro st ⟨here, met, way, o6, e7, e8, e9, sto, rfl, hs, hw, hl, hml⟩
    show K _
    subst hK
    refine step fun K hK => ?_
    simp
    exact h way sto hs hw (by simpa using hl)
end K07
end Ev
end

section
set_option Elab.async false
set_option linter.all false
set_option maxRecDepth 100000
set_option maxHeartbeats 8000000
/-! W9: values that are asked. -/
namespace Ev
open PySem PySem.Spec PyProof.Rows L2
namespace K07
structure VV (v : PyData) : Prop where
  ln : ∀ ds, v = .tuple ds → ds.length ≤ 1000
  rp : ∃ z, bD .repr [v] = some (.str z)
theorem vv_sz {v : PyData} (hz : Sz v 100000 4) (h : ∀ ds, v = .tuple ds → ds.length ≤ 1000) : VV v := ⟨h, _, f_rep (hz.ok (by rw [SL_eq]; omega) (by omega))⟩
theorem vv_no {v : PyData} (hz : Sz v 100000 4) (h : ∀ ds, v ≠ .tuple ds) : VV v := vv_sz hz fun ds e => absurd e (h ds)
theorem vv_il {l : List Int} (h : ∀ i ∈ l, I40 i) (hl : l.length ≤ 1000) : VV (il l) := vv_sz ((sz_il h).mono (by omega) (by omega)) fun ds e => by
  cases e
  rw [List.length_map]
  exact hl
theorem vv_ilL {l : List Int} (h : ∀ i ∈ l, I40 i) (hl : l.length ≤ 1000) : VV (.list (l.map .int)) := vv_no ((sz_ilL h).mono (by omega) (by omega)) fun ds e => (by cases e)
def oddV (way : List Int) (m : Int) : List PyData := [.none, .bool true, .int 0, .tuple [.int m], .tuple [.int (-1)], .tuple [.int 0, .int 0], .list [.int 0], .str (Str.ofString "0"), .dict [], .tuple [.bool true], .tuple [.int 0, .none], .list (way.map .int), .tuple ((way.map .int).reverse)]
theorem odd_vv {way : List Int} {m : Int} (hw : ∀ i ∈ way, I40 i) (hl : way.length ≤ 1000) (hm : I40 m) : ∀ d ∈ oddV way m, VV d := by
  intro d hd
  unfold oddV at hd
  simp only [List.mem_cons, List.not_mem_nil, or_false] at hd
  have one : ∀ i : Int, I40 i → VV (.tuple [.int i]) := fun i hi => vv_il (l := [i]) (by intro j hj; simp at hj; subst hj; exact hi) (by simp)
  rcases hd with rfl | rfl | rfl | rfl | rfl | rfl | rfl | rfl | rfl | rfl | rfl | rfl | rfl
  · exact vv_no (sz_non.mono (by omega) (by omega)) fun gs e => (by cases e)
  · exact vv_no ((sz_bool _).mono (by omega) (by omega)) fun gs e => (by cases e)
  · exact vv_no ((sz_int (by decide)).mono (by omega) (by omega)) fun gs e => (by cases e)
  · exact one m hm
  · exact one (-1) (I40.of (by omega))
  · exact vv_il (l := [0, 0]) (by intro j hj; simp at hj; subst hj; exact I40.of (by omega)) (by simp)
  · exact vv_ilL (l := [0]) (by intro j hj; simp at hj; subst hj; exact I40.of (by omega)) (by simp)
  · exact vv_no ⟨by decide +kernel, by decide +kernel, by decide +kernel, by decide +kernel⟩ fun gs e => (by cases e)
  · exact vv_no (sz_edict.mono (by omega) (by omega)) fun gs e => (by cases e)
  · exact vv_sz ⟨by decide +kernel, by decide +kernel, by decide +kernel, by decide +kernel⟩ fun gs e => (by cases e; simp)
  · exact vv_sz ⟨by decide +kernel, by decide +kernel, by decide +kernel, by decide +kernel⟩ fun gs e => (by cases e; simp)
  · exact vv_ilL hw hl
  · rw [← List.map_reverse]
    exact vv_il (l := way.reverse) (fun i hi => hw i (List.mem_reverse.mp hi)) (by rw [List.length_reverse]; exact hl)
theorem slc_il (w : List Int) (lo hi : Option Int) : ∃ w' : List Int, slcD (.tuple (w.map .int)) lo hi = some (.tuple (w'.map .int)) ∧ w'.length ≤ w.length ∧ ∀ i ∈ w', i ∈ w := by
  refine ⟨(w.drop (HT.sIx w.length 0 lo)).take (HT.sIx w.length w.length hi - HT.sIx w.length 0 lo), ?_, ?_, ?_⟩
  · simp only [slcD, cutD, List.length_map]
    rw [List.map_take, List.map_drop]
  · rw [List.length_take, List.length_drop]
    omega
  · intro i hi
    exact List.mem_of_mem_drop (List.mem_of_mem_take hi)
theorem rep_bool (b : Bool) : ∃ z, bD .repr [.bool b] = some (.str z) := ⟨_, f_rep ((sz_bool b).ok (by rw [SL_eq]; omega) (by omega))⟩
def E_l (ns : List Int) (lap n : Int) (ls : List (Int × Int)) (kept : Str) (e6 e7 e8 e9 e10 e11 e12 e13 e14 e15 e16 : Option EV) : List (Option EV) :=
  [some ⟨false, .scr ns⟩, some ⟨false, .ref 1⟩, some ⟨false, .dat (.int lap)⟩, some ⟨false, .dat (netD n ls)⟩, some ⟨false, .dat (.str kept)⟩, some ⟨false, .dat (.int ls.length)⟩, e6, e7, e8, e9, e10, e11, e12, e13, e14, e15, e16, none, none]
theorem val_turn {S : SpecK} {E : EndsP} {ns : List Int} {lap n : Int} {ls : List (Int × Int)} {kept : Str} {a b : Int} {v : PyData} {e6 e9 e10 e11 e12 e14 e15 e16 : Option EV} {sto : List SObj} (hv : VV v)
    (hiw : Has S "is_way_to" p_isw) (hlw : Has S "_law_is_way" p_isw)
    (hE : ∀ e14, E.nx ⟨E_l ns lap n ls kept e6 (some ⟨false, .dat (.int a)⟩) (some ⟨false, .dat (.int b)⟩) e9 e10 e11 e12 (some ⟨false, .dat v⟩) e14 e15 e16, sto⟩) :
    wpSs S b_law_2 E ⟨E_l ns lap n ls kept e6 (some ⟨false, .dat (.int a)⟩) (some ⟨false, .dat (.int b)⟩) e9 e10 e11 e12 (some ⟨false, .dat v⟩) e14 e15 e16, sto⟩ := by
  obtain ⟨z, hz⟩ := hv.rp
  unfold b_law_2 E_l
  unfold E_l at hE
  refine step fun K hK => ?_
  simp [hz]
  subst hK
  refine step fun K hK => ?_
  simp
  refine hiw _ _ _ ⟨n, ls, a, b, v, rfl, hv.ln, ?_⟩
  obtain ⟨zw, hzw⟩ := rep_bool (wayV ls a b v)
  simp [hzw]
  refine hlw _ _ _ ⟨n, ls, a, b, v, rfl, hv.ln, ?_⟩
  simp [hzw, hz]
  subst hK
  exact Ev.last (hE _)
theorem rows_turn {S : SpecK} {E : EndsP} {ns : List Int} {lap n : Int} {ls : List (Int × Int)} {kept : Str} {rows : List (List Int)} {e6 e7 e8 e9 e10 e11 e12 e13 e14 e15 : Option EV} {sto : List SObj} (hr : ∀ r ∈ rows, r.length ≤ 100) (hl : rows.length ≤ 100)
    (hap : Has S "are_apart" p_apart) (hsh : Has S "_law_shared" p_lsh)
    (hE : E.nx ⟨E_l ns lap n ls kept e6 e7 e8 e9 e10 e11 e12 e13 e14 e15 (some ⟨false, .dat (.tuple (rows.map il))⟩), sto⟩) :
    wpSs S b_law_1 E ⟨E_l ns lap n ls kept e6 e7 e8 e9 e10 e11 e12 e13 e14 e15 (some ⟨false, .dat (.tuple (rows.map il))⟩), sto⟩ := by
  unfold b_law_1 E_l
  unfold E_l at hE
  refine step fun K hK => ?_
  simp
  refine hap _ _ _ ⟨rows, rfl, hr, hl, ?_⟩
  obtain ⟨zw, hzw⟩ := rep_bool (nonD (minO (twP rows)))
  simp [hzw]
  refine hsh _ _ _ ⟨rows, rfl, hr, hl, ?_⟩
  generalize minO (twP rows) = m at *
  cases hv : nonD m with
  | false =>
    rw [hv] at hzw
    cases hsc : scalarV (.dat m) <;> simp [hsc, hv, hzw] <;> (subst hK; exact Ev.last hE)
  | true =>
    rw [hv] at hzw
    cases hsc : scalarV (.dat m) <;> simp [hsc, hv, hzw] <;> (subst hK; exact Ev.last hE)
end K07
end Ev
end

section
set_option Elab.async false
set_option linter.all false
set_option maxRecDepth 100000
set_option maxHeartbeats 16000000
/-! W10: the law: a turn. -/
namespace Ev
open PySem PySem.Spec PyProof.Rows L2
namespace K07
theorem arr_mem {ls : List (Int × Int)} {i : Int} (h : 0 ≤ i ∧ i < (ls.length : Int)) : arr ls i ∈ ls := by
  obtain ⟨q, hq, q1, _⟩ := at_lks h.1 h.2
  unfold arr
  rw [List.getD_eq_getElem?_getD, q1]
  exact hq
theorem st_rng {n : Int} {ls : List (Int × Int)} (hno : NetOk n ls) : ∀ {way : List Int} {a : Int} {row : List Int}, (0 ≤ a ∧ a < n) → (∀ i ∈ way, 0 ≤ i ∧ i < (ls.length : Int)) → stF ls a way = some row → ∀ x ∈ row, 0 ≤ x ∧ x < n
  | [], a, row, ha, _, h, x, hx => by
    cases h
    simp at hx
    subst hx
    exact ha
  | i :: way, a, row, ha, hw, h, x, hx => by
    rw [st_cons] at h
    split at h
    · rename_i hi
      obtain ⟨q, hq, rfl⟩ := Option.map_eq_some_iff.mp h
      obtain ⟨l1, l2, l3⟩ := hno _ (arr_mem (hw i List.mem_cons_self))
      rcases List.mem_cons.mp hx with rfl | hx
      · exact ha
      · exact st_rng hno (by omega) (fun j hj => hw j (List.mem_cons_of_mem _ hj)) hq x hx
    · cases h
theorem st_rep {n : Int} {ls : List (Int × Int)} {a : Int} {way : List Int} (hn : n ≤ 100) (hno : NetOk n ls) (ha : 0 ≤ a ∧ a < n) (hw : ∀ i ∈ way, 0 ≤ i ∧ i < (ls.length : Int)) (hl : way.length ≤ 100) : ∃ z, bD .repr [stD (stF ls a way)] = some (.str z) := by
  cases h : stF ls a way with
  | none => exact ⟨_, f_rep (sz_non.ok (by rw [SL_eq]; omega) (by omega))⟩
  | some row =>
    have hr := st_rng hno ha hw h
    obtain ⟨r, rfl, hrl⟩ := st_head h
    refine (vv_il (l := a :: r) (fun i hi => I40.of (by have := hr i hi; omega)) (by simp; omega)).rp
theorem ne_nilT (l : List Int) : cmpA .NotEq (.tuple (l.map .int)) (.tuple []) = some (!decide (l = [])) := by
  have h : eqD (il l) (.tuple []) = some (decide (l = [])) := by
    cases l with
    | nil => rfl
    | cons a r =>
      show eqD (il (a :: r)) (il []) = _
      have : eqD (il (a :: r)) (il []) = if SeqAt.shaped (il (a :: r)) = true ∧ SeqAt.shaped (il []) = true then some (PyData.eqv (il (a :: r)) (il [])) else none := rfl
      rw [this, if_pos ⟨shaped_il _, shaped_il _⟩]
      simp [il, PyData.eqv, PyData.eqvAll]
  show (eqD (il l) (.tuple [])).map not = _
  rw [h]; rfl
theorem way_il {ls : List (Int × Int)} {a b : Int} {way : List Int} (h : ∀ i ∈ way, 0 ≤ i ∧ i < (ls.length : Int)) : wayV ls a b (il way) = wayU ls a b way := by
  unfold wayV
  have h1 : numRowB ls.length (il way) = true := below_of h
  rw [h1]
  show (true && wayU ls a b (rowOf (il way))) = _
  have : rowOf (il way) = way := toI_ints way
  rw [this]
  rfl
theorem back_ok {ls : List (Int × Int)} {a b : Int} {way : List Int} (hab : a ≠ b) (h : ∀ i ∈ way, 0 ≤ i ∧ i < (ls.length : Int)) : wayV ls b a (il way.reverse) = (!decide (way = []) && wayV ls a b (il way)) := by
  rw [way_il h, way_il fun i hi => h i (List.mem_reverse.mp hi), ← way_back]
  by_cases e : way = []
  · subst e
    simp [way_nil hab]
  · simp [e]
end K07
end Ev
end

section
set_option Elab.async false
set_option linter.all false
set_option maxRecDepth 100000
set_option maxHeartbeats 16000000
/-! W11: the law: a turn, whole. -/
namespace Ev
open PySem PySem.Spec PyProof.Rows L2
namespace K07
def law3c : ISs := (.cons (.asg 15 (.bcl .tuple (.cons (.comp (.call "_law_drawn_way" (.cons (.var 1) (.cons (.var 3) (.cons (.var 7) (.cons (.var 8) .nil))))) (.nm 18) (.rg1 (.call "_law_pick" (.cons (.var 1) (.cons (.int 4) .nil)))) .no [18]) .nil))) (.cons (.for_ (.nm 16) (.ex (.tup (.cons (.var 15) (.cons (.tup (.cons (.var 10) (.cons (.var 9) .nil))) (.cons (.tup .nil) .nil))))) b_law_1) .nil))
def law3b : ISs := (.cons (.for_ (.nm 13) (.ex (.var 12)) b_law_2) (.cons (.ife (.cmp .NotEq (.bcl .repr (.cons (.call "stations_on" (.cons (.var 3) (.cons (.var 7) (.cons (.var 9) .nil)))) .nil)) (.bcl .repr (.cons (.call "_law_stations" (.cons (.var 3) (.cons (.var 7) (.cons (.var 9) .nil)))) .nil))) (.cons (.ret (.bl false)) .nil) .nil) (.cons (.ife (.cmp .NotEq (.bop true (.cons (.cmp .NotEq (.var 9) (.tup .nil)) (.cons (.call "is_way_to" (.cons (.var 3) (.cons (.var 7) (.cons (.var 8) (.cons (.var 9) .nil))))) .nil))) (.call "is_way_to" (.cons (.var 3) (.cons (.var 8) (.cons (.var 7) (.cons (.rev (.var 9)) .nil)))))) (.cons (.ret (.bl false)) .nil) .nil) law3c)))
def law3a : ISs := (.cons (.asg 11 (.lst (.cons .non (.cons (.bl true) (.cons (.int 0) (.cons (.tup (.cons (.var 5) .nil)) (.cons (.tup (.cons (.neg (.int 1)) .nil)) (.cons (.tup (.cons (.int 0) (.cons (.int 0) .nil))) (.cons (.lst (.cons (.int 0) .nil)) (.cons (.str "0") (.cons (.dnew false) (.cons (.tup (.cons (.bl true) .nil)) (.cons (.tup (.cons (.int 0) (.cons .non .nil))) (.cons (.bcl .list (.cons (.var 9) .nil)) (.cons (.rev (.var 9)) .nil))))))))))))))) (.cons (.asg 12 (.lst (.cons (.var 9) (.cons (.var 10) (.cons (.bin .Add (.var 9) (.slc (.var 9) (.so (.neg (.int 1))) .no)) (.cons (.slc (.var 9) (.so (.int 1)) .no) (.cons (.tup .nil) (.cons (.call "_law_of" (.cons (.var 1) (.cons (.var 11) .nil))) (.cons (.call "_law_of" (.cons (.var 1) (.cons (.var 11) .nil))) (.cons (.bin .Add (.var 9) (.var 10)) .nil)))))))))) law3b))
theorem law3_eq : b_law_3 = (.cons (.unp (.tup [(.nm 7), (.nm 8)]) (.call "_law_two" (.cons (.var 1) (.cons (.var 3) .nil)))) (.cons (.asg 9 (.call "_law_drawn_way" (.cons (.var 1) (.cons (.var 3) (.cons (.var 7) (.cons (.var 8) .nil)))))) (.cons (.asg 10 (.bcl .tuple (.cons (.slc (.call "_law_any_order" (.cons (.var 1) (.cons (.lrg false (.rg1 (.var 5))) .nil))) .no (.so (.call "_law_pick" (.cons (.var 1) (.cons (.int 4) .nil))))) .nil))) law3a))) := rfl
theorem revT {ds : List PyData} : revD (.tuple ds) = some (.tuple ds.reverse) := rfl
theorem ways_turn {S : SpecK} {E : EndsP} {ns : List Int} {lap n : Int} {ls : List (Int × Int)} {kept : Str} {a b : Int} {way drawn : List Int} {e6 e11 e12 e13 e14 e15 e16 : Option EV} {sto : List SObj} (hn : 2 ≤ n ∧ n ≤ 8) (hll : ls.length ≤ 20) (hs : SrcOk sto) (hwl : way.length ≤ 8) (hdl : drawn.length ≤ 3)
    (hpick : Has S "_law_pick" p_pick) (hdw : Has S "_law_drawn_way" p_dw) (hap : Has S "are_apart" p_apart) (hsh : Has S "_law_shared" p_lsh)
    (hE : ∀ e9 e10 e15 e16 sto, SrcOk sto → E.nx ⟨E_l ns lap n ls kept e6 (some ⟨false, .dat (.int a)⟩) (some ⟨false, .dat (.int b)⟩) e9 e10 e11 e12 e13 e14 e15 e16, sto⟩) :
    wpSs S law3c E ⟨E_l ns lap n ls kept e6 (some ⟨false, .dat (.int a)⟩) (some ⟨false, .dat (.int b)⟩) (some ⟨false, .dat (.tuple (way.map .int))⟩) (some ⟨false, .dat (.tuple (drawn.map .int))⟩) e11 e12 e13 e14 e15 e16, sto⟩ := by
  unfold law3c
  generalize hb1 : b_law_1 = b1
  refine step fun K hK => ?_
  unfold E_l
  simp
  refine hpick _ _ _ ⟨4, rfl, by omega, hs, fun k sto1 hs1 hk0 hk1 => ?_⟩
  simp
  refine ⟨⟨by omega, by omega⟩, ?_⟩
  rw [rngI_eq]
  refine comp_inv (enc := PyData.int) (fun (r : List Int) acc s => ∃ (ws : List (List Int)) (sto : List SObj), acc = ws.map il ∧ (∀ w ∈ ws, w.length ≤ 8) ∧ ws.length + r.length ≤ 4 ∧ SrcOk sto ∧ s = ⟨[some ⟨false, .scr ns⟩, some ⟨false, .ref 1⟩, some ⟨false, .dat (.int lap)⟩, some ⟨false, .dat (netD n ls)⟩, some ⟨false, .dat (.str kept)⟩, some ⟨false, .dat (.int ls.length)⟩, e6, some ⟨false, .dat (.int a)⟩, some ⟨false, .dat (.int b)⟩, some ⟨false, .dat (.tuple (way.map .int))⟩, some ⟨false, .dat (.tuple (drawn.map .int))⟩, e11, e12, e13, e14, e15, e16, none, none], sto⟩) ?_ ?_ ?_ ?_ _ _ _ ⟨[], sto1, rfl, fun w hw => (by cases hw), by rw [rngI_len]; simp; omega, hs1, rfl⟩
  · rintro r acc s ⟨ws, sto, rfl, _, _, _, rfl⟩
    simp
  · rintro x r acc s ⟨ws, sto, rfl, _, hl, _, rfl⟩
    rw [List.length_map, SL_eq]
    omega
  · rintro x r acc s K3 ⟨ws, sto, rfl, hw, hl, hs, rfl⟩ hK3
    refine ⟨_, rfl, ?_⟩
    rw [List.length_cons] at hl
    simp
    refine hdw _ _ _ ⟨n, ls, a, b, rfl, by omega, by omega, by omega, hs, fun w sto2 hs2 _ hwl2 => ?_⟩
    simp
    refine hK3 (some (il w)) _ ⟨ws ++ [w], sto2, by simp, fun z hz => (List.mem_append.mp hz).elim (hw z) fun e => by simp at e; subst e; omega, by simp; omega, hs2, rfl⟩
  · rintro acc s ⟨ws, sto2, rfl, hw, hl, hs2, rfl⟩
    simp
    subst hK
    refine step fun K hK => ?_
    simp [SL_eq]
    rw [show [PyData.tuple (ws.map il), .tuple [.tuple (drawn.map .int), .tuple (way.map .int)], .tuple []] = [ws, [drawn, way], []].map (fun rows : List (List Int) => PyData.tuple (rows.map il)) from rfl]
    refine loop_inv (enc := fun rows : List (List Int) => PyData.tuple (rows.map il)) (fun r s => ∃ e16, s = ⟨E_l ns lap n ls kept e6 (some ⟨false, .dat (.int a)⟩) (some ⟨false, .dat (.int b)⟩) (some ⟨false, .dat (.tuple (way.map .int))⟩) (some ⟨false, .dat (.tuple (drawn.map .int))⟩) e11 e12 e13 e14 (some ⟨false, .dat (.tuple (ws.map il))⟩) e16, sto2⟩ ∧ ∀ rows ∈ r, (∀ w ∈ rows, w.length ≤ 100) ∧ rows.length ≤ 100) ?_ ?_ _ _ ⟨e16, rfl, fun rows hr => ?_⟩
    · rintro rows r s K4 ⟨e16, rfl, hr⟩ hK4
      refine ⟨_, rfl, ?_⟩
      subst hb1
      obtain ⟨r1, r2⟩ := hr rows List.mem_cons_self
      exact rows_turn r1 r2 hap hsh (hK4 _ ⟨_, rfl, fun x hx => hr x (List.mem_cons_of_mem _ hx)⟩)
    · rintro s ⟨e16, rfl, _⟩
      show K _
      subst hK
      exact Ev.last (hE _ _ _ _ _ hs2)
    · simp only [List.mem_cons, List.not_mem_nil, or_false] at hr
      rcases hr with rfl | rfl | rfl
      · exact ⟨fun w h => by have := hw w h; omega, by simp at hl; omega⟩
      · refine ⟨fun w h => ?_, by simp⟩
        simp only [List.mem_cons, List.not_mem_nil, or_false] at h
        rcases h with rfl | rfl <;> omega
      · exact ⟨fun w h => (by cases h), by simp⟩
theorem vals_turn {S : SpecK} {E : EndsP} {ns : List Int} {lap n : Int} {ls : List (Int × Int)} {kept : Str} {a b : Int} {way drawn : List Int} {vs : List PyData} {e6 e11 e13 e14 e15 e16 : Option EV} {sto : List SObj} (hn : 2 ≤ n ∧ n ≤ 8) (hll : ls.length ≤ 20) (hno : NetOk n ls) (hs : SrcOk sto) (ha : 0 ≤ a ∧ a < n) (hab : a ≠ b) (hw : ∀ i ∈ way, 0 ≤ i ∧ i < (ls.length : Int)) (hwl : way.length ≤ 8) (hdl : drawn.length ≤ 3) (hvs : ∀ v ∈ vs, VV v)
    (hpick : Has S "_law_pick" p_pick) (hdw : Has S "_law_drawn_way" p_dw) (hap : Has S "are_apart" p_apart) (hsh : Has S "_law_shared" p_lsh) (hst : Has S "stations_on" p_st) (hlst : Has S "_law_stations" p_st) (hiw : Has S "is_way_to" p_isw) (hlw : Has S "_law_is_way" p_isw)
    (hE : ∀ e9 e10 e12 e13 e14 e15 e16 sto, SrcOk sto → E.nx ⟨E_l ns lap n ls kept e6 (some ⟨false, .dat (.int a)⟩) (some ⟨false, .dat (.int b)⟩) e9 e10 e11 e12 e13 e14 e15 e16, sto⟩) :
    wpSs S law3b E ⟨E_l ns lap n ls kept e6 (some ⟨false, .dat (.int a)⟩) (some ⟨false, .dat (.int b)⟩) (some ⟨false, .dat (.tuple (way.map .int))⟩) (some ⟨false, .dat (.tuple (drawn.map .int))⟩) e11 (some ⟨true, .dat (.list vs)⟩) e13 e14 e15 e16, sto⟩ := by
  unfold law3b
  generalize hb2 : b_law_2 = b2
  generalize hl3 : law3c = l3
  refine step fun K hK => ?_
  have hgo : ∀ (o12 : Bool) (e13 e14 : Option EV), K ⟨E_l ns lap n ls kept e6 (some ⟨false, .dat (.int a)⟩) (some ⟨false, .dat (.int b)⟩) (some ⟨false, .dat (.tuple (way.map .int))⟩) (some ⟨false, .dat (.tuple (drawn.map .int))⟩) e11 (some ⟨o12, .dat (.list vs)⟩) e13 e14 e15 e16, sto⟩ := by
    intro o12 e13 e14
    subst hK
    unfold E_l
    obtain ⟨z, hz⟩ := st_rep (way := way) (a := a) (by omega) hno ha hw (by omega)
    refine step fun K hK => ?_
    simp
    refine hst _ _ _ ⟨n, ls, a, way, rfl, hw, by omega, ?_⟩
    have hgo2 : K ⟨[some ⟨false, .scr ns⟩, some ⟨false, .ref 1⟩, some ⟨false, .dat (.int lap)⟩, some ⟨false, .dat (netD n ls)⟩, some ⟨false, .dat (.str kept)⟩, some ⟨false, .dat (.int ls.length)⟩, e6, some ⟨false, .dat (.int a)⟩, some ⟨false, .dat (.int b)⟩, some ⟨false, .dat (.tuple (way.map .int))⟩, some ⟨false, .dat (.tuple (drawn.map .int))⟩, e11, some ⟨o12, .dat (.list vs)⟩, e13, e14, e15, e16, none, none], sto⟩ := by
      subst hK
      refine step fun K hK => ?_
      have hback := back_ok hab hw
      have hnn := ne_nilT way
      have hfin : K ⟨[some ⟨false, .scr ns⟩, some ⟨false, .ref 1⟩, some ⟨false, .dat (.int lap)⟩, some ⟨false, .dat (netD n ls)⟩, some ⟨false, .dat (.str kept)⟩, some ⟨false, .dat (.int ls.length)⟩, e6, some ⟨false, .dat (.int a)⟩, some ⟨false, .dat (.int b)⟩, some ⟨false, .dat (.tuple (way.map .int))⟩, some ⟨false, .dat (.tuple (drawn.map .int))⟩, e11, some ⟨o12, .dat (.list vs)⟩, e13, e14, e15, e16, none, none], sto⟩ := by
        subst hK
        subst hl3
        exact ways_turn hn hll hs hwl hdl hpick hdw hap hsh fun e9 e10 e15 e16 sto hs => hE _ _ _ _ _ _ _ _ hs
      have hlr : ∀ ds, il way.reverse = .tuple ds → ds.length ≤ 1000 := fun ds e => by
        cases e
        rw [List.length_map, List.length_reverse]
        omega
      have hlw : ∀ ds, il way = .tuple ds → ds.length ≤ 1000 := fun ds e => by
        cases e
        rw [List.length_map]
        omega
      by_cases e : way = []
      · subst e
        simp at hback hnn
        simp [hnn, revT]
        refine hiw _ _ _ ⟨n, ls, b, a, .tuple [], rfl, hlr, ?_⟩
        rw [show wayV ls b a (.tuple []) = false from hback]
        simp [c_neb]
        exact hfin
      · rw [decide_eq_false e] at hback hnn
        simp at hback
        simp [hnn, revT]
        refine hiw _ _ _ ⟨n, ls, a, b, il way, rfl, hlw, ?_⟩
        have hiw2 : ∀ sto (Q : EV → List SObj → Prop), Q ⟨false, .dat (.bool (wayV ls b a (il way.reverse)))⟩ sto → S "is_way_to" [.dat (netD n ls), .dat (.int b), .dat (.int a), .dat (il way.reverse)] sto Q := fun sto Q hq => hiw _ _ _ ⟨n, ls, b, a, il way.reverse, rfl, hlr, hq⟩
        rw [hback, show il way.reverse = .tuple (way.map .int).reverse by unfold il; rw [List.map_reverse]] at hiw2
        cases hv : wayV ls a b (il way) with
        | false =>
          rw [hv] at hiw2
          simp
          refine hiw2 _ _ ?_
          simp [c_neb]
          exact hfin
        | true =>
          rw [hv] at hiw2
          simp
          refine hiw2 _ _ ?_
          simp [c_neb]
          exact hfin
    have hlst2 : ∀ sto (Q : EV → List SObj → Prop), Q ⟨false, .dat (stD (stF ls a way))⟩ sto → S "_law_stations" [.dat (netD n ls), .dat (.int a), .dat (il way)] sto Q := fun sto Q hq => hlst _ _ _ ⟨n, ls, a, way, rfl, hw, by omega, hq⟩
    generalize stD (stF ls a way) = sd at *
    cases hsc : scalarV (.dat sd) <;> simp [hsc, hz] <;> (refine hlst2 _ _ ?_; simp [hsc, hz]; exact hgo2)
  unfold E_l
  simp
  refine loop_raw (loop_inv (enc := id) (fun r s => ∃ (e13 e14 : Option EV), s = ⟨E_l ns lap n ls kept e6 (some ⟨false, .dat (.int a)⟩) (some ⟨false, .dat (.int b)⟩) (some ⟨false, .dat (.tuple (way.map .int))⟩) (some ⟨false, .dat (.tuple (drawn.map .int))⟩) e11 (some ⟨false, .dat (.list vs)⟩) e13 e14 e15 e16, sto⟩ ∧ ∀ v ∈ r, VV v) ?_ ?_ _ _ ⟨e13, e14, rfl, hvs⟩)
  · rintro v r s K4 ⟨e13, e14, rfl, hr⟩ hK4
    refine ⟨_, rfl, ?_⟩
    subst hb2
    exact val_turn (hr v List.mem_cons_self) hiw hlw fun e14 => hK4 _ ⟨_, _, rfl, fun x hx => hr x (List.mem_cons_of_mem _ hx)⟩
  · rintro s ⟨e13, e14, rfl, _⟩
    show K _
    exact hgo false e13 e14
end K07
end Ev
end

section
set_option Elab.async false
set_option linter.all false
set_option maxRecDepth 100000
set_option maxHeartbeats 16000000
/-! W12: the law: a turn, its draws. -/
namespace Ev
open PySem PySem.Spec PyProof.Rows L2
namespace K07
theorem odds_turn {S : SpecK} {E : EndsP} {ns : List Int} {lap n : Int} {ls : List (Int × Int)} {kept : Str} {a b : Int} {way drawn : List Int} {e6 e11 e12 e13 e14 e15 e16 : Option EV} {sto : List SObj} (hll : ls.length ≤ 20) (hs : SrcOk sto) (hw : ∀ i ∈ way, 0 ≤ i ∧ i < (ls.length : Int)) (hwl : way.length ≤ 8) (hd : ∀ i ∈ drawn, 0 ≤ i ∧ i < (ls.length : Int)) (hdl : drawn.length ≤ 3)
    (hof : Has S "_law_of" p_of)
    (hE : ∀ (vs : List PyData) e11 sto, SrcOk sto → (∀ v ∈ vs, VV v) → wpSs S law3b E ⟨E_l ns lap n ls kept e6 (some ⟨false, .dat (.int a)⟩) (some ⟨false, .dat (.int b)⟩) (some ⟨false, .dat (.tuple (way.map .int))⟩) (some ⟨false, .dat (.tuple (drawn.map .int))⟩) e11 (some ⟨true, .dat (.list vs)⟩) e13 e14 e15 e16, sto⟩) :
    wpSs S law3a E ⟨E_l ns lap n ls kept e6 (some ⟨false, .dat (.int a)⟩) (some ⟨false, .dat (.int b)⟩) (some ⟨false, .dat (.tuple (way.map .int))⟩) (some ⟨false, .dat (.tuple (drawn.map .int))⟩) e11 e12 e13 e14 e15 e16, sto⟩ := by
  unfold law3a
  generalize law3b = l3 at *
  unfold E_l at *
  have I : ∀ i : Int, 0 ≤ i ∧ i < (ls.length : Int) → I40 i := fun i hi => I40.of (by omega)
  have hodd := odd_vv (way := way) (m := (ls.length : Int)) (fun i hi => I i (hw i hi)) (by omega) (I40.of (by omega))
  refine step fun K hK => ?_
  simp [revT, SL_eq]
  subst hK
  rw [← List.map_reverse] at *
  rw [show [PyData.none, .bool true, .int 0, .tuple [.int (ls.length : Int)], .tuple [.int (-1)], .tuple [.int 0, .int 0], .list [.int 0], .str (Str.ofString "0"), .dict [], .tuple [.bool true], .tuple [.int 0, .none], .list (way.map .int), .tuple (way.reverse.map .int)] = oddV way ls.length by unfold oddV; rw [List.map_reverse]]
  obtain ⟨w1, s1, l1, m1⟩ := slc_il way (some (-1)) none
  obtain ⟨w2, s2, l2, m2⟩ := slc_il way (some 1) none
  have N1 : binD .Add (.tuple (way.map PyData.int)) (.tuple (w1.map PyData.int)) = some (.tuple (way.map PyData.int ++ w1.map PyData.int)) := n_addT (by simp [SL_eq]; omega)
  have N2 : binD .Add (.tuple (way.map PyData.int)) (.tuple (drawn.map PyData.int)) = some (.tuple (way.map PyData.int ++ drawn.map PyData.int)) := n_addT (by simp [SL_eq]; omega)
  refine step fun K hK => ?_
  simp [s1, s2, N1, N2, SL_eq]
  have hol : (oddV way ls.length).length = 13 := rfl
  generalize oddV way ls.length = O at *
  refine hof _ _ _ ⟨.list O, O, rfl, rfl, by omega, by omega, hs, fun d1 hd1 sto1 hs1 => ?_⟩
  have hgo : ∀ (o11 : Bool), ∀ d2 ∈ O, ∀ sto2, SrcOk sto2 → K ⟨[some ⟨false, .scr ns⟩, some ⟨false, .ref 1⟩, some ⟨false, .dat (.int lap)⟩, some ⟨false, .dat (netD n ls)⟩, some ⟨false, .dat (.str kept)⟩, some ⟨false, .dat (.int ls.length)⟩, e6, some ⟨false, .dat (.int a)⟩, some ⟨false, .dat (.int b)⟩, some ⟨false, .dat (.tuple (way.map .int))⟩, some ⟨false, .dat (.tuple (drawn.map .int))⟩, some ⟨o11, .dat (.list O)⟩, some ⟨true, .dat (.list [.tuple (way.map .int), .tuple (drawn.map .int), .tuple (way.map .int ++ w1.map .int), .tuple (w2.map .int), .tuple [], d1, d2, .tuple (way.map .int ++ drawn.map .int)])⟩, e13, e14, e15, e16, none, none], sto2⟩ := by
    intro o11 d2 hd2 sto2 hs2
    subst hK
    refine hE _ _ _ hs2 fun v hv => ?_
    simp only [List.mem_cons, List.not_mem_nil, or_false] at hv
    rcases hv with rfl | rfl | rfl | rfl | rfl | rfl | rfl | rfl
    · exact vv_il (fun i hi => I i (hw i hi)) (by omega)
    · exact vv_il (fun i hi => I i (hd i hi)) (by omega)
    · rw [← List.map_append]
      exact vv_il (fun i hi => I i ((List.mem_append.mp hi).elim (hw i) fun q => hw i (m1 i q))) (by rw [List.length_append]; omega)
    · exact vv_il (fun i hi => I i (hw i (m2 i hi))) (by omega)
    · exact vv_il (l := []) (fun i hi => by cases hi) (by simp)
    · exact hodd _ hd1
    · exact hodd _ hd2
    · rw [← List.map_append]
      exact vv_il (fun i hi => I i ((List.mem_append.mp hi).elim (hw i) (hd i))) (by rw [List.length_append]; omega)
  cases hsc1 : scalarV (.dat d1) <;> simp [hsc1, SL_eq] <;> (refine hof _ _ _ ⟨.list O, O, rfl, rfl, by omega, by omega, hs1, fun d2 hd2 sto2 hs2 => ?_⟩; cases hsc2 : scalarV (.dat d2) <;> simp [hsc2, N2, SL_eq] <;> exact hgo _ d2 hd2 sto2 hs2)
theorem law_turn {S : SpecK} {E : EndsP} {ns : List Int} {lap n : Int} {ls : List (Int × Int)} {kept : Str} {e6 e7 e8 e9 e10 e11 e12 e13 e14 e15 e16 : Option EV} {sto : List SObj} (hn : 2 ≤ n ∧ n ≤ 8) (hll : ls.length ≤ 20) (hno : NetOk n ls) (hs : SrcOk sto)
    (hpick : Has S "_law_pick" p_pick) (hmix : Has S "_law_any_order" p_mixed) (htwo : Has S "_law_two" p_two) (hof : Has S "_law_of" p_of) (hdw : Has S "_law_drawn_way" p_dw) (hap : Has S "are_apart" p_apart) (hsh : Has S "_law_shared" p_lsh) (hst : Has S "stations_on" p_st) (hlst : Has S "_law_stations" p_st) (hiw : Has S "is_way_to" p_isw) (hlw : Has S "_law_is_way" p_isw)
    (hE : ∀ e7 e8 e9 e10 e11 e12 e13 e14 e15 e16 sto, SrcOk sto → E.nx ⟨E_l ns lap n ls kept e6 e7 e8 e9 e10 e11 e12 e13 e14 e15 e16, sto⟩) :
    wpSs S b_law_3 E ⟨E_l ns lap n ls kept e6 e7 e8 e9 e10 e11 e12 e13 e14 e15 e16, sto⟩ := by
  rw [law3_eq]
  generalize hl3 : law3a = l3
  unfold E_l at *
  refine step fun K hK => ?_
  simp
  refine htwo _ _ _ ⟨n, ls, rfl, by omega, by omega, hs, fun a b sto1 hs1 ha hb hab => ?_⟩
  simp
  subst hK
  refine step fun K hK => ?_
  simp
  refine hdw _ _ _ ⟨n, ls, a, b, rfl, by omega, by omega, by omega, hs1, fun way sto2 hs2 hw hwl => ?_⟩
  simp
  subst hK
  refine step fun K hK => ?_
  simp
  refine ⟨by omega, ?_⟩
  refine hmix _ _ _ ⟨.list (rngD 0 ls.length), rngD 0 ls.length, rfl, rfl, by
    show (rngD 0 (ls.length : Int).toNat).length ≤ 100000
    rw [rngI_eq, List.length_map, rngI_len]
    omega, hs2, fun rr sto3 hs3 hr => ?_⟩
  obtain ⟨l, rfl, _, hl1, hlm, _⟩ := mix_rng (n := (ls.length : Int)) hr
  simp
  refine hpick _ _ _ ⟨4, rfl, by omega, hs3, fun k sto4 hs4 hk0 hk1 => ?_⟩
  simp
  have hsl : slcD (.list (l.map PyData.int)) none (some k) = some (.list ((l.take k.toNat).map .int)) := by rw [slc_to hk0, List.map_take]
  have hdl : (l.take k.toNat).length ≤ 3 := by rw [List.length_take]; omega
  have hdm : ∀ i ∈ l.take k.toNat, 0 ≤ i ∧ i < (ls.length : Int) := fun i hi => hlm i (List.mem_of_mem_take hi)
  generalize l.take k.toNat = drawn at *
  simp [hsl]
  subst hK
  subst hl3
  refine odds_turn hll hs4 hw (by omega) hdm hdl hof fun vs e11 sto hs5 hvs => ?_
  exact vals_turn hn hll hno hs5 ha hab hw (by omega) hdl hvs hpick hdw hap hsh hst hlst hiw hlw fun e9 e10 e12 e13 e14 e15 e16 sto hs => hE _ _ _ _ _ _ _ _ _ _ _ hs
end K07
end Ev
end

section
set_option Elab.async false
set_option linter.all false
set_option maxRecDepth 100000
set_option maxHeartbeats 16000000
/-! W13: the law, whole. -/
namespace Ev
open PySem PySem.Spec PyProof.Rows L2
namespace K07
theorem rep_net {n : Int} {ls : List (Int × Int)} (hn : n ≤ 100) (hn0 : 0 ≤ n) (hno : NetOk n ls) (hl : ls.length ≤ 1000) : ∃ z, bD .repr [netD n ls] = some (.str z) :=
  ⟨_, f_rep ((sz_net (I40.of (by omega)) (hno.sz (by omega))).ok (by rw [SL_eq]; omega) (by omega))⟩
def net4 : List (Int × Int) := [(0, 1), (0, 1), (0, 2), (1, 3), (2, 3)]
def p_law : Pre := fun args sto Q => ∃ ns : List Int, args = [.scr ns] ∧ sto = [] ∧ ns.length ≤ 63 ∧ ∀ sto', Q ⟨false, .dat (.bool true)⟩ sto'
theorem g_law (S : SpecK) (d : DefI) (hb : d.body = b_law) (hN : d.N.length = 19) (hp : d.ps.length = 1) (hsrc : Has S "_law_open_cells" p_source) (hnet : Has S "_law_net" p_net)
    (hpick : Has S "_law_pick" p_pick) (hmix : Has S "_law_any_order" p_mixed) (htwo : Has S "_law_two" p_two) (hof : Has S "_law_of" p_of) (hdw : Has S "_law_drawn_way" p_dw) (hap : Has S "are_apart" p_apart) (hsh : Has S "_law_shared" p_lsh) (hst : Has S "stations_on" p_st) (hlst : Has S "_law_stations" p_st) (hiw : Has S "is_way_to" p_isw) (hlw : Has S "_law_is_way" p_isw) : Keeps1 S d p_law := by
  rintro args sto Q ⟨ns, rfl, rfl, hl, h⟩
  refine ⟨hp.symm, ?_⟩
  rw [hb]
  have e0 : startE d.N [.scr ns] = [some ⟨false, .scr ns⟩, none, none, none, none, none, none, none, none, none, none, none, none, none, none, none, none, none, none] := by simp [startE, hN, List.replicate]
  rw [e0]
  unfold b_law
  generalize hb4 : b_law_4 = b4
  refine step fun K hK => ?_
  simp
  refine hsrc _ _ _ ⟨ns, rfl, rfl, by omega, fun cells mixed => ?_⟩
  simp
  have hs0 : SrcOk (SrcS cells 1 mixed 0) := ⟨_, _, _, _, rfl⟩
  generalize SrcS cells 1 mixed 0 = sto at hs0
  subst hK
  refine step fun K hK => ?_
  simp
  refine ⟨⟨by omega, by omega⟩, ?_⟩
  change wpLoop _ _ (rngD 0 (4 : Int).toNat) _
  rw [rngI_eq]
  refine loop_inv (fun (r : List Int) st => ∃ (e2 e3 e4 e5 e6 e7 e8 e9 e10 e11 e12 e13 e14 e15 e16 : Option EV) (sto : List SObj), st = ⟨[some ⟨false, .scr ns⟩, some ⟨false, .ref 1⟩, e2, e3, e4, e5, e6, e7, e8, e9, e10, e11, e12, e13, e14, e15, e16, none, none], sto⟩ ∧ SrcOk sto ∧ ∀ v ∈ r, 0 ≤ v ∧ v < 4) ?_ ?_ (rngI 4) _ ⟨none, none, none, none, none, none, none, none, none, none, none, none, none, none, none, sto, rfl, hs0, fun v hv => rngI_mem.mp hv⟩
  · rintro lap r st K2 ⟨e2, e3, e4, e5, e6, e7, e8, e9, e10, e11, e12, e13, e14, e15, e16, sto, rfl, hs, hv⟩ hK2
    refine ⟨_, rfl, ?_⟩
    have hlap := hv lap (by simp)
    obtain ⟨m1, i1, i1b⟩ : ∃ m : Int, atI [PyData.int 3, .int 5, .int 8, .int 8] lap = some (.int m) ∧ 2 ≤ m ∧ m ≤ 8 := by
      have : lap = 0 ∨ lap = 1 ∨ lap = 2 ∨ lap = 3 := by omega
      rcases this with rfl | rfl | rfl | rfl
      · exact ⟨3, rfl, by omega⟩
      · exact ⟨5, rfl, by omega⟩
      · exact ⟨8, rfl, by omega⟩
      · exact ⟨8, rfl, by omega⟩
    obtain ⟨m2, i2, i2b⟩ : ∃ m : Int, atI [PyData.int 4, .int 9, .int 14, .int 20] lap = some (.int m) ∧ 0 ≤ m ∧ m ≤ 20 := by
      have : lap = 0 ∨ lap = 1 ∨ lap = 2 ∨ lap = 3 := by omega
      rcases this with rfl | rfl | rfl | rfl
      · exact ⟨4, rfl, by omega⟩
      · exact ⟨9, rfl, by omega⟩
      · exact ⟨14, rfl, by omega⟩
      · exact ⟨20, rfl, by omega⟩
    subst hb4
    unfold b_law_4
    generalize hb3 : b_law_3 = b3
    refine step fun K3 hK3 => ?_
    simp [i1, i2, SL_eq]
    refine hnet _ _ _ ⟨m1, m2, rfl, by omega, by omega, by omega, by omega, hs, fun n ls sto1 hs1 hn0 hn1 hll hno => ?_⟩
    simp
    subst hK3
    obtain ⟨z, hz⟩ := rep_net (n := n) (ls := ls) (by omega) (by omega) hno (by omega)
    refine step fun K3 hK3 => ?_
    simp [hz, net1]
    subst hK3
    refine step fun K3 hK3 => ?_
    simp
    refine ⟨⟨by omega, by omega⟩, ?_⟩
    change wpLoop _ _ (rngD 0 (4 : Int).toNat) _
    rw [rngI_eq]
    refine loop_inv (fun (r : List Int) st => ∃ (e6 e7 e8 e9 e10 e11 e12 e13 e14 e15 e16 : Option EV) (sto : List SObj), st = ⟨E_l ns lap n ls z e6 e7 e8 e9 e10 e11 e12 e13 e14 e15 e16, sto⟩ ∧ SrcOk sto) ?_ ?_ (rngI 4) _ ⟨_, _, _, _, _, _, _, _, _, _, _, sto1, rfl, hs1⟩
    · rintro turn r' st K4 ⟨e6, e7, e8, e9, e10, e11, e12, e13, e14, e15, e16, sto, rfl, hs⟩ hK4
      refine ⟨_, rfl, ?_⟩
      subst hb3
      exact law_turn ⟨hn0, by omega⟩ (by omega) hno hs hpick hmix htwo hof hdw hap hsh hst hlst hiw hlw fun e7 e8 e9 e10 e11 e12 e13 e14 e15 e16 sto hs => hK4 _ ⟨_, _, _, _, _, _, _, _, _, _, _, sto, rfl, hs⟩
    · rintro st ⟨e6, e7, e8, e9, e10, e11, e12, e13, e14, e15, e16, sto, rfl, hs⟩
      show K3 _
      subst hK3
      unfold E_l
      refine step fun K3 hK3 => ?_
      simp [hz]
      subst hK3
      exact Ev.last (hK2 _ ⟨_, _, _, _, _, _, _, _, _, _, _, _, _, _, _, sto, rfl, hs, fun v hv' => hv v (by simp [hv'])⟩)
  · rintro st ⟨e2, e3, e4, e5, e6, e7, e8, e9, e10, e11, e12, e13, e14, e15, e16, sto, rfl, hs, _⟩
    show K _
    subst hK
    have hn : PyData.tuple [.int 4, .tuple [.tuple [.int 0, .int 1], .tuple [.int 0, .int 1], .tuple [.int 0, .int 2], .tuple [.int 1, .int 3], .tuple [.int 2, .int 3]]] = netD 4 net4 := rfl
    refine step fun K hK => ?_
    simp [SL_eq]
    rw [hn]
    subst hK
    refine step fun K hK => ?_
    simp [SL_eq]
    refine hst _ _ _ ⟨4, net4, 0, [2, 4, 3], rfl, by decide, by decide, ?_⟩
    rw [show stD (stF net4 0 [2, 4, 3]) = il [0, 2, 3, 1] by rw [show stF net4 0 [2, 4, 3] = some [0, 2, 3, 1] by decide +kernel]; rfl]
    simp
    refine hiw _ _ _ ⟨4, net4, 0, 1, il [2, 4, 3], rfl, fun ds e => by cases e; simp, ?_⟩
    rw [show wayV net4 0 1 (il [2, 4, 3]) = true by decide +kernel]
    simp
    refine hiw _ _ _ ⟨4, net4, 0, 3, il [0, 1, 3], rfl, fun ds e => by cases e; simp, ?_⟩
    rw [show wayV net4 0 3 (il [0, 1, 3]) = false by decide +kernel]
    simp [SL_eq]
    subst hK
    have heq : cmpA CmpOp.Eq (PyData.list [il [0, 2, 3, 1], PyData.bool true, PyData.bool false]) (PyData.list [PyData.tuple [PyData.int 0, PyData.int 2, PyData.int 3, PyData.int 1], PyData.bool true, PyData.bool false]) = some true := by rfl
    refine step fun K hK => ?_
    simp [SL_eq, heq]
    exact h _
end K07
end Ev
end

section
set_option Elab.async false
set_option linter.all false
set_option maxRecDepth 100000
namespace Ev
open PySem PySem.Spec PyProof.Rows L2
namespace K07
def top (i : Nat) : Stmt := PySem.Challenge.pw_linkslost_k07_ways_of_links.main.body.getD i (.Pass ⟨0, 0, 0, 0⟩)
def F : List String := ["_law_open_cells", "_law_pick", "_law_net", "_law_any_order", "_law_two", "_law_of", "_law_drawn_way", "is_number_row", "stations_on", "is_way_to", "_law_is_int", "_law_is_row", "_law_stations", "_law_is_way", "first_shared", "are_apart", "_law_shared", "law"]
def b_law_open_cells_1 : ISs := (.cons (.asg 1 (.bin .Mod (.bcl .int (.cons (.bin .Add (.bin .Add (.bin .Mult (.var 1) (.int 69069)) (.bin .Mult (.var 2) (.int 31))) (.int 5)) .nil)) (.int 2147483629))) .nil)
def b_law_open_cells : ISs := (.cons (.asg 1 (.int 11)) (.cons (.for_ (.nm 2) (.ex (.var 0)) b_law_open_cells_1) (.cons (.asg 3 (.comp (.bcl .abs (.cons (.var 2) .nil)) (.nm 2) (.ex (.var 0)) .no [2])) (.cons (.ret (.rcd (.cons "cells" (.rev (.var 3)) (.cons "left" (.int 1) (.cons "mixed" (.var 1) (.cons "turn" (.int 0) .nil)))))) .nil))))
def d_law_open_cells : DefI := ⟨"_law_open_cells", ["script"], ["script", "stirred", "cell", "cells"], b_law_open_cells, top 7⟩
theorem ok_law_open_cells : DefOk F d_law_open_cells := ⟨⟨rfl, rfl, rfl, by decide +kernel, rfl, by decide +kernel, by decide +kernel⟩, by decide +kernel, fun _ _ _ _ _ _ us hl => match us, hl with | [_], _ => rfl⟩
def b_law_pick_1 : ISs := (.cons (.put (.var 0) (.str "left") (.pop (.var 2) .nil)) .nil)
def b_law_pick : ISs := (.cons (.ife (.cmp .Lt (.var 1) (.int 2)) (.cons (.ret (.int 0)) .nil) .nil) (.cons (.asg 2 (.idx (.var 0) (.str "cells"))) (.cons (.whl (.bop true (.cons (.cmp .Lt (.idx (.var 0) (.str "left")) (.int 2)) (.cons (.cmp .Gt (.bcl .len (.cons (.var 2) .nil)) (.int 0)) .nil))) b_law_pick_1) (.cons (.asg 3 (.idx (.var 0) (.str "left"))) (.cons (.ife (.cmp .Gt (.var 3) (.int 1)) (.cons (.put (.var 0) (.str "left") (.bin .FloorDiv (.var 3) (.var 1))) (.cons (.ret (.bin .Mod (.bcl .int (.cons (.var 3) .nil)) (.var 1))) .nil)) .nil) (.cons (.put (.var 0) (.str "turn") (.bin .Add (.idx (.var 0) (.str "turn")) (.int 1))) (.cons (.asg 4 (.idx (.var 0) (.str "turn"))) (.cons (.asg 5 (.bin .Mod (.bcl .int (.cons (.bin .Add (.idx (.var 0) (.str "mixed")) (.bin .Mult (.var 4) (.int 104729))) .nil)) (.int 998244353))) (.cons (.asg 5 (.bin .Mod (.bcl .int (.cons (.bin .Add (.bin .Mult (.var 5) (.var 5)) (.bin .Mult (.var 4) (.int 17))) .nil)) (.int 2147483647))) (.cons (.ret (.bin .Mod (.bcl .int (.cons (.bin .FloorDiv (.var 5) (.int 16)) .nil)) (.var 1))) .nil))))))))))
def d_law_pick : DefI := ⟨"_law_pick", ["source", "most"], ["source", "most", "cells", "others", "lap", "stirred"], b_law_pick, top 8⟩
theorem ok_law_pick : DefOk F d_law_pick := ⟨⟨rfl, rfl, rfl, by decide +kernel, rfl, by decide +kernel, by decide +kernel⟩, by decide +kernel, fun _ _ _ _ _ _ us hl => match us, hl with | [_, _], _ => rfl⟩
def d_law_net : DefI := ⟨"_law_net", ["source", "most", "links"], ["source", "most", "links", "n", "found", "lap", "a"], b_law_net, top 11⟩
theorem ok_law_net : DefOk F d_law_net := ⟨⟨rfl, rfl, rfl, by decide +kernel, rfl, by decide +kernel, by decide +kernel⟩, by decide +kernel, fun _ _ _ _ _ _ us hl => match us, hl with | [_, _, _], _ => rfl⟩
def b_law_any_order : ISs := (.cons (.asg 2 (.bcl .list (.cons (.var 1) .nil))) (.cons (.ret (.comp (.pop (.var 2) (.cons (.call "_law_pick" (.cons (.var 0) (.cons (.bcl .len (.cons (.var 2) .nil)) .nil))) .nil)) (.nm 3) (.rg1 (.bcl .len (.cons (.var 2) .nil))) .no [3])) .nil))
def d_law_any_order : DefI := ⟨"_law_any_order", ["source", "things"], ["source", "things", "others", "lap"], b_law_any_order, top 9⟩
theorem ok_law_any_order : DefOk F d_law_any_order := ⟨⟨rfl, rfl, rfl, by decide +kernel, rfl, by decide +kernel, by decide +kernel⟩, by decide +kernel, fun _ _ _ _ _ _ us hl => match us, hl with | [_, _], _ => rfl⟩
def d_law_two : DefI := ⟨"_law_two", ["source", "net"], ["source", "net"], b_law_two, top 12⟩
theorem ok_law_two : DefOk F d_law_two := ⟨⟨rfl, rfl, rfl, by decide +kernel, rfl, by decide +kernel, by decide +kernel⟩, by decide +kernel, fun _ _ _ _ _ _ us hl => match us, hl with | [_, _], _ => rfl⟩
def d_law_of : DefI := ⟨"_law_of", ["source", "some"], ["source", "some"], b_law_of, top 10⟩
theorem ok_law_of : DefOk F d_law_of := ⟨⟨rfl, rfl, rfl, by decide +kernel, rfl, by decide +kernel, by decide +kernel⟩, by decide +kernel, fun _ _ _ _ _ _ us hl => match us, hl with | [_, _], _ => rfl⟩
def d_law_drawn_way : DefI := ⟨"_law_drawn_way", ["source", "net", "a", "b"], ["source", "net", "a", "b", "here", "met", "found", "lap", "some", "link", "k", "x", "y"], b_law_drawn_way, top 18⟩
theorem ok_law_drawn_way : DefOk F d_law_drawn_way := ⟨⟨rfl, rfl, rfl, by decide +kernel, rfl, by decide +kernel, by decide +kernel⟩, by decide +kernel, fun _ _ _ _ _ _ us hl => match us, hl with | [_, _, _, _], _ => rfl⟩
def d_is_number_row : DefI := ⟨"is_number_row", ["value", "many"], ["value", "many", "one"], b_is_number_row, top 1⟩
theorem ok_is_number_row : DefOk F d_is_number_row := ⟨⟨rfl, rfl, rfl, by decide +kernel, rfl, by decide +kernel, by decide +kernel⟩, by decide +kernel, fun _ _ _ _ _ _ us hl => match us, hl with | [_, _], _ => rfl⟩
def d_stations_on : DefI := ⟨"stations_on", ["net", "a", "way"], ["net", "a", "way", "found", "link", "ends"], b_stations_on, top 2⟩
theorem ok_stations_on : DefOk F d_stations_on := ⟨⟨rfl, rfl, rfl, by decide +kernel, rfl, by decide +kernel, by decide +kernel⟩, by decide +kernel, fun _ _ _ _ _ _ us hl => match us, hl with | [_, _, _], _ => rfl⟩
def d_is_way_to : DefI := ⟨"is_way_to", ["net", "a", "b", "value"], ["net", "a", "b", "value", "row", "station"], b_is_way_to, top 3⟩
theorem ok_is_way_to : DefOk F d_is_way_to := ⟨⟨rfl, rfl, rfl, by decide +kernel, rfl, by decide +kernel, by decide +kernel⟩, by decide +kernel, fun _ _ _ _ _ _ us hl => match us, hl with | [_, _, _, _], _ => rfl⟩
def d_law_is_int : DefI := ⟨"_law_is_int", ["value"], ["value"], b_law_is_int, top 13⟩
theorem ok_law_is_int : DefOk F d_law_is_int := ⟨⟨rfl, rfl, rfl, by decide +kernel, rfl, by decide +kernel, by decide +kernel⟩, by decide +kernel, fun _ _ _ _ _ _ us hl => match us, hl with | [_], _ => rfl⟩
def d_law_is_row : DefI := ⟨"_law_is_row", ["value", "many"], ["value", "many", "one"], b_law_is_row, top 14⟩
theorem ok_law_is_row : DefOk F d_law_is_row := ⟨⟨rfl, rfl, rfl, by decide +kernel, rfl, by decide +kernel, by decide +kernel⟩, by decide +kernel, fun _ _ _ _ _ _ us hl => match us, hl with | [_, _], _ => rfl⟩
def d_law_stations : DefI := ⟨"_law_stations", ["net", "a", "way"], ["net", "a", "way", "found", "link", "x", "y"], b_law_stations, top 15⟩
theorem ok_law_stations : DefOk F d_law_stations := ⟨⟨rfl, rfl, rfl, by decide +kernel, rfl, by decide +kernel, by decide +kernel⟩, by decide +kernel, fun _ _ _ _ _ _ us hl => match us, hl with | [_, _, _], _ => rfl⟩
def d_law_is_way : DefI := ⟨"_law_is_way", ["net", "a", "b", "value"], ["net", "a", "b", "value", "row", "one"], b_law_is_way, top 16⟩
theorem ok_law_is_way : DefOk F d_law_is_way := ⟨⟨rfl, rfl, rfl, by decide +kernel, rfl, by decide +kernel, by decide +kernel⟩, by decide +kernel, fun _ _ _ _ _ _ us hl => match us, hl with | [_, _, _, _], _ => rfl⟩
def d_first_shared : DefI := ⟨"first_shared", ["ways"], ["ways", "some", "i", "way", "k", "late"], b_first_shared, top 4⟩
theorem ok_first_shared : DefOk F d_first_shared := ⟨⟨rfl, rfl, rfl, by decide +kernel, rfl, by decide +kernel, by decide +kernel⟩, by decide +kernel, fun _ _ _ _ _ _ us hl => match us, hl with | [_], _ => rfl⟩
def d_are_apart : DefI := ⟨"are_apart", ["ways"], ["ways"], b_are_apart, top 5⟩
theorem ok_are_apart : DefOk F d_are_apart := ⟨⟨rfl, rfl, rfl, by decide +kernel, rfl, by decide +kernel, by decide +kernel⟩, by decide +kernel, fun _ _ _ _ _ _ us hl => match us, hl with | [_], _ => rfl⟩
def d_law_shared : DefI := ⟨"_law_shared", ["ways"], ["ways", "found", "i", "way", "late", "link"], b_law_shared, top 17⟩
theorem ok_law_shared : DefOk F d_law_shared := ⟨⟨rfl, rfl, rfl, by decide +kernel, rfl, by decide +kernel, by decide +kernel⟩, by decide +kernel, fun _ _ _ _ _ _ us hl => match us, hl with | [_], _ => rfl⟩
def d_law : DefI := ⟨"law", ["script"], ["script", "source", "lap", "net", "kept", "many", "turn", "a", "b", "way", "drawn", "odd", "some", "value", "held", "ways", "rows", "told", "other"], b_law, top 19⟩
theorem ok_law : DefOk F d_law := ⟨⟨rfl, rfl, rfl, by decide +kernel, rfl, by decide +kernel, by decide +kernel⟩, by decide +kernel, fun _ _ _ _ _ _ us hl => match us, hl with | [_], _ => rfl⟩

end K07
end Ev
end

section
set_option Elab.async false
set_option linter.all false
set_option maxRecDepth 100000
set_option maxHeartbeats 0
namespace Ev
open PySem PySem.Spec PyProof.Rows L2
namespace K07
def DD : List DefI := [d_law_open_cells, d_law_pick, d_law_net, d_law_any_order, d_law_two, d_law_of, d_law_drawn_way, d_is_number_row, d_stations_on, d_is_way_to, d_law_is_int, d_law_is_row, d_law_stations, d_law_is_way, d_first_shared, d_are_apart, d_law_shared, d_law]
def T : List (DefI × Pre) := [(d_law_open_cells, p_source), (d_law_pick, p_pick), (d_law_any_order, p_mixed), (d_law_net, p_net), (d_law_two, p_two), (d_law_of, p_of), (d_law_drawn_way, p_dw), (d_is_number_row, p_nrow), (d_stations_on, p_st), (d_is_way_to, p_isw), (d_law_is_int, p_isint), (d_law_is_row, p_lrow), (d_law_stations, p_st), (d_law_is_way, p_isw), (d_first_shared, p_lsh), (d_are_apart, p_apart), (d_law_shared, p_lsh), (d_law, p_law)]
theorem good : GoodL [] T := by
  unfold T
  refine ⟨fun S h => g_source S _ rfl rfl rfl, ?_⟩
  refine ⟨fun S h => g_pick S _ rfl rfl rfl, ?_⟩
  refine ⟨fun S h => g_mixed S _ rfl rfl rfl (h (d_law_pick, p_pick) (by simp)), ?_⟩
  refine ⟨fun S h => g_net S _ (h (d_law_pick, p_pick) (by simp)) rfl rfl rfl, ?_⟩
  refine ⟨fun S h => g_two S _ (h (d_law_any_order, p_mixed) (by simp)) rfl rfl rfl, ?_⟩
  refine ⟨fun S h => g_of S _ rfl rfl rfl (h (d_law_pick, p_pick) (by simp)), ?_⟩
  refine ⟨fun S h => g_dw S _ (h (d_law_of, p_of) (by simp)) rfl rfl rfl, ?_⟩
  refine ⟨fun S h => g_nrow S _ rfl rfl rfl, ?_⟩
  refine ⟨fun S h => g_st S _ rfl rfl rfl, ?_⟩
  refine ⟨fun S h => g_isw S _ (h (d_is_number_row, p_nrow) (by simp)) (h (d_stations_on, p_st) (by simp)) rfl rfl rfl, ?_⟩
  refine ⟨fun S h => g_isint S _ rfl rfl rfl, ?_⟩
  refine ⟨fun S h => g_lrow S _ (h (d_law_is_int, p_isint) (by simp)) rfl rfl rfl, ?_⟩
  refine ⟨fun S h => g_lst S _ rfl rfl rfl, ?_⟩
  refine ⟨fun S h => g_lisw S _ (h (d_law_is_row, p_lrow) (by simp)) (h (d_law_stations, p_st) (by simp)) rfl rfl rfl, ?_⟩
  refine ⟨fun S h => g_fsh S _ rfl rfl rfl, ?_⟩
  refine ⟨fun S h => g_apart S _ (h (d_first_shared, p_lsh) (by simp)) rfl rfl rfl, ?_⟩
  refine ⟨fun S h => g_lsh S _ rfl rfl rfl, ?_⟩
  refine ⟨fun S h => g_law S _ rfl rfl rfl (h (d_law_open_cells, p_source) (by simp)) (h (d_law_net, p_net) (by simp)) (h (d_law_pick, p_pick) (by simp)) (h (d_law_any_order, p_mixed) (by simp)) (h (d_law_two, p_two) (by simp)) (h (d_law_of, p_of) (by simp)) (h (d_law_drawn_way, p_dw) (by simp)) (h (d_are_apart, p_apart) (by simp)) (h (d_law_shared, p_lsh) (by simp)) (h (d_stations_on, p_st) (by simp)) (h (d_law_stations, p_st) (by simp)) (h (d_is_way_to, p_isw) (by simp)) (h (d_law_is_way, p_isw) (by simp)), ?_⟩
  trivial
def loose : List Str := (["is_number_row", "stations_on", "is_way_to", "first_shared", "are_apart", "_law_open_cells", "_law_pick", "_law_any_order", "_law_of", "_law_net", "_law_two", "_law_is_int", "_law_is_row", "_law_stations", "_law_is_way", "_law_shared"] : List Str) ++ (["_law_drawn_way"] : List Str)
theorem okT : ∀ d ∈ DD, DefOk F d := by
  intro d hd
  simp only [DD, List.mem_cons, List.not_mem_nil, or_false] at hd
  rcases hd with rfl | rfl | rfl | rfl | rfl | rfl | rfl | rfl | rfl | rfl | rfl | rfl | rfl | rfl | rfl | rfl | rfl | rfl
  · exact ok_law_open_cells
  · exact ok_law_pick
  · exact ok_law_net
  · exact ok_law_any_order
  · exact ok_law_two
  · exact ok_law_of
  · exact ok_law_drawn_way
  · exact ok_is_number_row
  · exact ok_stations_on
  · exact ok_is_way_to
  · exact ok_law_is_int
  · exact ok_law_is_row
  · exact ok_law_stations
  · exact ok_law_is_way
  · exact ok_first_shared
  · exact ok_are_apart
  · exact ok_law_shared
  · exact ok_law
theorem inT : ∀ x ∈ T, x.1 ∈ DD := by
  intro x hx
  simp only [T, List.mem_cons, List.not_mem_nil, or_false] at hx
  rcases hx with rfl | rfl | rfl | rfl | rfl | rfl | rfl | rfl | rfl | rfl | rfl | rfl | rfl | rfl | rfl | rfl | rfl | rfl
  · simp [DD]
  · simp [DD]
  · simp [DD]
  · simp [DD]
  · simp [DD]
  · simp [DD]
  · simp [DD]
  · simp [DD]
  · simp [DD]
  · simp [DD]
  · simp [DD]
  · simp [DD]
  · simp [DD]
  · simp [DD]
  · simp [DD]
  · simp [DD]
  · simp [DD]
  · simp [DD]
def fn : List He.DefD := DD.map fun x => ⟨(x.x, none), x.x, x.x, defArgs x.st, defBody x.st, defScope x.st, [], []⟩
def fa : List He.Fa := DD.map (fun x => .glo x.x) ++ bltNames.map .free
abbrev RW : PySem.W.OpenRow := PySem.W.OpenLaw.row PySem.Challenge.rw_linkslost_k07_ways_of_links
abbrev hk : PySem.W.Hook := He.hookD 4 fa fn
def ob (s : PySem.W.SharedT) : He.AlD := He.obsDG 4 fa fn (HandSHeadRun.getT s)
theorem ob_eq (s : PySem.W.SharedT) : ob s = hk.obs s.abs := He.obsDG_eq (HandSHeadRun.getT_eq s)
theorem run (w : World) : HandSHeadRun.RunEq RW (PySem.W.view RW.prog [19]) hk ob 1200 loose w := by
  intro os
  kernel_rfl
theorem F_eq : DD.map (fun x => x.nm) = F := rfl
theorem con : Con DD (spT T) := con_ofR good inT (by rw [F_eq]; decide +kernel)
theorem facts {P : Program} {w : World} {K : PySem.W.Frag} {h : Heap} {mg : Str → Option Value} {f : Addr} (X : K.In h) (G : h.Ns mainGlobals mg) (hfa : mg ("law" : Str) = some (.ref f)) (c : He.SaysD fa fn K) :
    ∃ fd : FuncData, (∀ (s : Shared) (v : Value), BindsTo s fd ⟨[v], []⟩ [("script", v)]) ∧ ∀ base : Heap, K.In base → base.Ns mainGlobals mg → FnG P w K mg base 18 f fd ["script"] (spOf K (spT T 18) "law") := by
  have gl : ∀ g ∈ DD, ∃ fd, FunD K g.x g.x (defArgs g.st) (defBody g.st) (defScope g.st) [] [] (He.ga K g.x) fd ∧ mg g.x = some (.ref (He.ga K g.x)) := by
    intro g hg
    obtain ⟨fd, FD⟩ := c.defs (List.mem_map_of_mem hg)
    exact ⟨fd, FD, He.glo_ok X G (c.facts (List.mem_append_left _ (List.mem_map_of_mem hg)))⟩
  have bl : ∀ x ∈ bltNames, mg x = none := fun x hx => He.free_ok X G (c.facts (List.mem_append_right _ (List.mem_map_of_mem hx)))
  have hl : d_law ∈ DD := by simp [DD]
  obtain ⟨fd, FD, e⟩ := gl d_law hl
  have e' := hfa.symm.trans e
  cases e'
  have b := FunD.bindsA (ps := ["script"]) FD ok_law.bind
  exact ⟨fd, fun s v => b s [v] rfl, fun base _ _ => prog_fn con okT bl gl 18 d_law hl fd FD⟩
theorem law_here (ns : List Int) (hl : ns.length ≤ 63) : spT T 18 "law" [.scr ns] [] fun r _ => r = ⟨false, .dat (.bool true)⟩ := ⟨17, d_law, p_law, by omega, rfl, rfl, ns, rfl, rfl, hl, fun _ => rfl⟩
end K07
end Ev
open PySem PySem.W PySem.Calls PyProof.Rows
theorem PySem.Challenge.cw_linkslost_k07_ways_of_links_holds : PySem.Challenge.rw_linkslost_k07_ways_of_links.Holds := by
  w_on; o_law
  refine HandSHeadRun.head_any (r := OpenLaw.row PySem.Challenge.rw_linkslost_k07_ways_of_links) (q := view (OpenLaw.row PySem.Challenge.rw_linkslost_k07_ways_of_links).prog [19]) (H := Ev.K07.hk) (ob := Ev.K07.ob) (M := 1200) (loose := Ev.K07.loose) (d := HandSHeadRun.topDef (OpenLaw.row PySem.Challenge.rw_linkslost_k07_ways_of_links).prog 19) (kwd := []) Ev.K07.ob_eq
    (by kernel_rfl) (fun s => by kernel_rfl) Ev.K07.run (by kernel_rfl) (by kernel_rfl) (by kernel_rfl) (by rfl) (by first | assumption | decide +kernel) (by decide +kernel) ⟨rfl, rfl, rfl, rfl, rfl, by decide +kernel⟩ ?hw ?hc
  case hw => w_witness2
  case hc =>
    refine Ev.walk_law (l := PySem.Challenge.rw_linkslost_k07_ways_of_links) (n := 63) (k := 18) (x := "script") rfl (by decide) (by kernel_rfl) ⟨rfl, by decide, by decide⟩ ?F
    intro w mg fa h Y G hmg0
    obtain ⟨K, KX, c⟩ := Y
    have hmg : mg ("law" : PySem.Str) = some (.ref fa) := by
      have e : (HandSHeadRun.topDef (OpenLaw.row PySem.Challenge.rw_linkslost_k07_ways_of_links).prog 19).name = ("law" : PySem.Str) := by kernel_rfl
      rw [← e]
      exact hmg0
    obtain ⟨fd, hb, hF⟩ := Ev.K07.facts (P := (PySem.Challenge.rw_linkslost_k07_ways_of_links).prog) (w := w) KX G hmg c
    exact ⟨K, fd, _, KX, hb, fun H a ns hl hS => Ev.law_sp (Ev.K07.law_here ns hl) hS, hF⟩
end
