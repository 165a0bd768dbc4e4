import PyProof.Rows.All
import Wide.All
import OpenK.AllK
import Wide.FinOn
import HandS.ForMost
import HandS.Evl
import HandS.IsInst
import HandS.Conv
import HandS.Dict
import HandS.DictComp
import HandS.SortInts
import HandS.Style
import HandS.TupMul
import HandS.Zip
import HandS.WordsExc
import HandS.Lambda
import KE.GoesMore
import KE.GoesNew
import HandS.ExcInit
import HandS.ExcSuper
import HandS.ExcOwn
import KE.KExcSuper
import KE.KExcMake
import KE.KSuper
import HandS.RaiseMore
import PyProof.ReprLen
import HandS.ExcField
import HandS.ExcIs
import KE.KExcIs
import HandS.EndTab
import PySem.Challenge.RW_outsoonest_k15_whole_greatest_flows_and
set_option Elab.async false
set_option linter.all false
set_option maxRecDepth 100000
set_option maxHeartbeats 8000000
/-! A logic over data: frames of data cells, owned lists and dicts; the heap is told once, here. -/
namespace DL
open PySem L2
abbrev Ex (H H' : Hp) : Prop := ∀ a o, H a = some o → H' a = some o
theorem Ex.rfl' {H : Hp} : Ex H H := fun _ _ h => h
theorem Ex.tr {H H1 H2 : Hp} (a : Ex H H1) (b : Ex H1 H2) : Ex H H2 := fun x o h => b x o (a x o h)
theorem Ex.updN {H : Hp} {p : Addr} {o : HO} (h : H p = none) : Ex H (upd H p o) := fun a u e => by
  rw [upd_ne (ne_of_none e h)]; exact e

/-! ### data, by what a heap tells -/
mutual
inductive Dg (G : Hp) : V → PyData → Prop
  | non : Dg G .non .none
  | bl (b : Bool) : Dg G (.bl b) (.bool b)
  | int (i : Int) : Dg G (.int i) (.int i)
  | str (x : Str) : Dg G (.str x) (.str x)
  | lst {a : Addr} {xs : List V} {ds : List PyData} : G a = some (.lst xs) → DgAll G xs ds → Dg G (.ref a) (.list ds)
  | tup {a : Addr} {xs : List V} {ds : List PyData} : G a = some (.tup xs) → DgAll G xs ds → Dg G (.ref a) (.tuple ds)
  | dic {a : Addr} {ks : List (Key × V)} {kvs : List (PyData × PyData)} : G a = some (.dK ks) → DgKv G ks kvs → Dg G (.ref a) (.dict kvs)
inductive DgAll (G : Hp) : List V → List PyData → Prop
  | nil : DgAll G [] []
  | cons {v : V} {vs : List V} {d : PyData} {ds : List PyData} : Dg G v d → DgAll G vs ds → DgAll G (v :: vs) (d :: ds)
inductive DgKv (G : Hp) : List (Key × V) → List (PyData × PyData) → Prop
  | nil : DgKv G [] []
  | cons {k : Int} {v : V} {vs : List (Key × V)} {d : PyData} {ds : List (PyData × PyData)} : Dg G v d → DgKv G vs ds → DgKv G ((.inl k, v) :: vs) ((.int k, d) :: ds)
end
mutual
theorem Dg.up {G G' : Hp} (e : Ex G G') : ∀ {v : V} {d : PyData}, Dg G v d → Dg G' v d
  | _, _, .non => .non
  | _, _, .bl b => .bl b
  | _, _, .int i => .int i
  | _, _, .str x => .str x
  | _, _, .lst h r => .lst (e _ _ h) (DgAll.up e r)
  | _, _, .tup h r => .tup (e _ _ h) (DgAll.up e r)
  | _, _, .dic h r => .dic (e _ _ h) (DgKv.up e r)
theorem DgAll.up {G G' : Hp} (e : Ex G G') : ∀ {v : List V} {d : List PyData}, DgAll G v d → DgAll G' v d
  | _, _, .nil => .nil
  | _, _, .cons h r => .cons (Dg.up e h) (DgAll.up e r)
theorem DgKv.up {G G' : Hp} (e : Ex G G') : ∀ {v : List (Key × V)} {d : List (PyData × PyData)}, DgKv G v d → DgKv G' v d
  | _, _, .nil => .nil
  | _, _, .cons h r => .cons (Dg.up e h) (DgKv.up e r)
end
theorem DgAll.len {G : Hp} : ∀ {vs : List V} {ds : List PyData}, DgAll G vs ds → vs.length = ds.length
  | _, _, .nil => rfl
  | _, _, .cons _ r => by rw [List.length_cons, List.length_cons, r.len]
theorem DgAll.get {G : Hp} : ∀ {vs : List V} {ds : List PyData}, DgAll G vs ds → ∀ {i : Nat} {d : PyData}, ds[i]? = some d → ∃ v, vs[i]? = some v ∧ Dg G v d
  | _, _, .nil, _, _, e => absurd e (by simp)
  | _, _, .cons h _, 0, _, e => by
    simp at e; subst e; exact ⟨_, rfl, h⟩
  | _, _, .cons _ r, i + 1, d, e => by
    obtain ⟨v, h1, h2⟩ := r.get (i := i) (by simpa using e)
    exact ⟨v, by simpa using h1, h2⟩
theorem DgAll.getV {G : Hp} : ∀ {vs : List V} {ds : List PyData}, DgAll G vs ds → ∀ {i : Nat} {v : V}, vs[i]? = some v → ∃ d, ds[i]? = some d ∧ Dg G v d
  | _, _, .nil, _, _, e => absurd e (by simp)
  | _, _, .cons h _, 0, _, e => by
    simp at e; subst e; exact ⟨_, rfl, h⟩
  | _, _, .cons _ r, i + 1, d, e => by
    obtain ⟨v, h1, h2⟩ := r.getV (i := i) (by simpa using e)
    exact ⟨v, by simpa using h1, h2⟩
theorem DgAll.app {G : Hp} : ∀ {vs ws : List V} {ds es : List PyData}, DgAll G vs ds → DgAll G ws es → DgAll G (vs ++ ws) (ds ++ es)
  | _, _, _, _, .nil, h => h
  | _, _, _, _, .cons h r, k => .cons h (r.app k)
theorem DgAll.snoc {G : Hp} {vs : List V} {ds : List PyData} {v : V} {d : PyData} (h : DgAll G vs ds) (k : Dg G v d) : DgAll G (vs ++ [v]) (ds ++ [d]) := h.app (.cons k .nil)
theorem DgAll.set {G : Hp} {v : V} {d : PyData} (k : Dg G v d) : ∀ {vs : List V} {ds : List PyData}, DgAll G vs ds → ∀ i, DgAll G (vs.set i v) (ds.set i d)
  | _, _, .nil, _ => .nil
  | _, _, .cons _ r, 0 => .cons k r
  | _, _, .cons h r, i + 1 => .cons h (DgAll.set k r i)
theorem DgAll.rev {G : Hp} : ∀ {vs : List V} {ds : List PyData}, DgAll G vs ds → DgAll G vs.reverse ds.reverse
  | _, _, .nil => .nil
  | _, _, .cons h r => by
    rw [List.reverse_cons, List.reverse_cons]; exact r.rev.snoc h
theorem DgAll.drop {G : Hp} : ∀ (n : Nat) {vs : List V} {ds : List PyData}, DgAll G vs ds → DgAll G (vs.drop n) (ds.drop n)
  | 0, _, _, h => h
  | n + 1, _, _, .nil => .nil
  | n + 1, _, _, .cons _ r => DgAll.drop n r
theorem DgAll.take {G : Hp} : ∀ (n : Nat) {vs : List V} {ds : List PyData}, DgAll G vs ds → DgAll G (vs.take n) (ds.take n)
  | 0, _, _, _ => .nil
  | n + 1, _, _, .nil => .nil
  | n + 1, _, _, .cons h r => .cons h (DgAll.take n r)
theorem DgAll.ints {G : Hp} : ∀ {vs : List V} {ns : List Int}, DgAll G vs (ns.map PyData.int) → vs = ns.map V.int
  | _, [], .nil => rfl
  | _, _ :: _, .cons (.int i) r => by rw [List.map_cons, DgAll.ints r]
theorem DgAll.ofInts {G : Hp} : ∀ ns : List Int, DgAll G (ns.map V.int) (ns.map PyData.int)
  | [] => .nil
  | n :: ns => .cons (.int n) (DgAll.ofInts ns)
theorem DgAll.bls {G : Hp} : ∀ {vs : List V} {ns : List Bool}, DgAll G vs (ns.map PyData.bool) → vs = ns.map V.bl
  | _, [], .nil => rfl
  | _, _ :: _, .cons (.bl i) r => by rw [List.map_cons, DgAll.bls r]
theorem DgAll.rep {G : Hp} {v : V} {d : PyData} (h : Dg G v d) : ∀ n, DgAll G (List.replicate n v) (List.replicate n d)
  | 0 => .nil
  | n + 1 => .cons h (DgAll.rep h n)

/-! ### frames -/
inductive Cell where
  | no
  | d (x : PyData)
  | p (v : V) (x : PyData)
  | l (xs : List PyData)
  | m (kvs : List (PyData × PyData))
  | b (a : Addr)
  | r (v : V)
  | ll (rs : List Addr) (rows : List (List PyData))
  | k (a : Addr) (u : HO)
  | q (fs : List (Addr × HO))
  | t (P : Addr) (q : Str) (ps : Array Value)
  | la (a : Addr) (xs : List PyData)
abbrev Fm := List Cell
/-- lists that stand by themselves -/
inductive Rws (G H : Hp) : List Addr → List (List PyData) → Prop
  | nil : Rws G H [] []
  | cons {r : Addr} {ys : List V} {row : List PyData} {rs : List Addr} {rows : List (List PyData)} : H r = some (.lst ys) → DgAll G ys row → Rws G H rs rows → Rws G H (r :: rs) (row :: rows)
theorem Rws.up {G G' H H' : Hp} (g : Ex G G') : ∀ {rs : List Addr} {rows : List (List PyData)}, (∀ r ∈ rs, ∀ u, H r = some u → H' r = some u) → Rws G H rs rows → Rws G' H' rs rows
  | _, _, _, .nil => .nil
  | _, _, h, .cons h1 h2 h3 => .cons (h _ List.mem_cons_self _ h1) (h2.up g) (Rws.up g (fun r hr => h r (List.mem_cons_of_mem _ hr)) h3)
theorem Rws.there {G H : Hp} : ∀ {rs : List Addr} {rows : List (List PyData)}, Rws G H rs rows → ∀ r ∈ rs, ∃ ys, H r = some (.lst ys)
  | _, _, .nil, _, h => absurd h List.not_mem_nil
  | _, _, .cons h1 _ h3, r, h => by
    obtain q | q := List.mem_cons.mp h
    · rw [q]; exact ⟨_, h1⟩
    · exact h3.there r q
theorem Rws.len {G H : Hp} : ∀ {rs : List Addr} {rows : List (List PyData)}, Rws G H rs rows → rs.length = rows.length
  | _, _, .nil => rfl
  | _, _, .cons _ _ h => by simp [h.len]
theorem Rws.get {G H : Hp} : ∀ {rs : List Addr} {rows : List (List PyData)}, Rws G H rs rows → ∀ {k : Nat} {row : List PyData}, rows[k]? = some row → ∃ r ys, rs[k]? = some r ∧ H r = some (.lst ys) ∧ DgAll G ys row
  | _, _, .nil, k, row, h => by simp at h
  | _, _, .cons h1 h2 _, 0, row, h => by
    simp at h; subst h; exact ⟨_, _, rfl, h1, h2⟩
  | _, _, .cons _ _ h3, k + 1, row, h => by
    obtain ⟨r, ys, e1, e2, e3⟩ := h3.get (k := k) (by simpa using h)
    exact ⟨r, ys, by simpa using e1, e2, e3⟩
/-- one of them changes -/
theorem Rws.set {G H : Hp} {p : Addr} {zs : List V} {row' : List PyData} (hd : DgAll G zs row') : ∀ {rs : List Addr} {rows : List (List PyData)}, Rws G H rs rows → ∀ {k : Nat}, rs.Nodup → rs[k]? = some p → Rws G (upd H p (.lst zs)) rs (rows.set k row')
  | _, _, .nil, k, _, h => by simp at h
  | r :: rs, _, .cons h1 h2 h3, 0, nd, h => by
    have h : r = p := by simpa using h
    subst h
    have hn := (List.nodup_cons.mp nd).1
    exact .cons upd_same hd (h3.up Ex.rfl' fun x hx u hu => by
      have : x ≠ r := fun z => hn (by rw [← z]; exact hx)
      rw [upd_ne this]; exact hu)
  | r :: rs, row :: rows, .cons h1 h2 h3, k + 1, nd, h => by
    have h' : rs[k]? = some p := by simpa using h
    have ⟨n1, n2⟩ := List.nodup_cons.mp nd
    have : r ≠ p := fun z => n1 (by rw [z]; exact List.mem_of_getElem? h')
    exact .cons (by rw [upd_ne this]; exact h1) h2 (h3.set hd n2 h')
def CellOk (G H : Hp) (o : Option (Option V)) : Cell → Prop
  | .no => True
  | .d x => ∃ v, o = some (some v) ∧ Dg G v x
  | .p w x => o = some (some w) ∧ Dg G w x
  | .l xs => ∃ a ys, o = some (some (.ref a)) ∧ H a = some (.lst ys) ∧ DgAll G ys xs
  | .m kvs => ∃ a ks, o = some (some (.ref a)) ∧ H a = some (.dK ks) ∧ DgKv G ks kvs
  | .b a => o = some (some (.ref a)) ∧ ∃ i j, H a = some (.lst [.int i, .int j])
  | .r w => o = some (some w)
  | .ll rs rows => ∃ a, o = some (some (.ref a)) ∧ H a = some (.lst (rs.map V.ref)) ∧ (a :: rs).Nodup ∧ Rws G H rs rows
  | .k a u => o = some (some (.ref a)) ∧ H a = some u
  | .q fs => ∃ a, o = some (some (.ref a)) ∧ H a = some (.lst (fs.map fun x => V.ref x.1)) ∧ a ∉ fs.map (·.1) ∧ ∀ x ∈ fs, H x.1 = some x.2
  | .t P q ps => H P = some (.tbl ps) ∧ TriplesOk ps.toList ∧ ∀ (pos : Pos) (cv : Value), codeAmong pos ps.toList = some cv → ∃ c, cv = .ref c ∧ H c = some (LamX.CodeO c q)
  | .la a xs => o = some (some (.ref a)) ∧ ∃ ys, H a = some (.lst ys) ∧ DgAll G ys xs
def Own (o : Option (Option V)) (a : Addr) : Cell → Prop
  | .l _ => o = some (some (.ref a))
  | .m _ => o = some (some (.ref a))
  | .b _ => o = some (some (.ref a))
  | .ll rs _ => o = some (some (.ref a)) ∨ a ∈ rs
  | .k b _ => a = b
  | .q fs => o = some (some (.ref a)) ∨ a ∈ fs.map (·.1)
  | .t P _ ps => a = P ∨ ∃ pos, codeAmong pos ps.toList = some (.ref a)
  | .la _ _ => o = some (some (.ref a))
  | _ => False
def isBox : Cell → Bool
  | .b _ => true
  | _ => false
theorem CellOk.up {G G' H H' : Hp} {o : Option (Option V)} {c : Cell} (g : Ex G G') (h : ∀ a, Own o a c → ∀ u, H a = some u → H' a = some u) (k : CellOk G H o c) : CellOk G' H' o c := by
  cases c with
  | no => trivial
  | d x => obtain ⟨v, e, q⟩ := k; exact ⟨v, e, q.up g⟩
  | p w x => exact ⟨k.1, k.2.up g⟩
  | l xs => obtain ⟨a, ys, e, q, r⟩ := k; exact ⟨a, ys, e, h a e _ q, r.up g⟩
  | m xs => obtain ⟨a, ys, e, q, r⟩ := k; exact ⟨a, ys, e, h a e _ q, r.up g⟩
  | b a => obtain ⟨e, i, j, q⟩ := k; exact ⟨e, i, j, h a e _ q⟩
  | r w => exact k
  | ll rs rows =>
    obtain ⟨a, e, q, nd, r⟩ := k
    exact ⟨a, e, h a (.inl e) _ q, nd, r.up g fun x hx u hu => h x (.inr hx) u hu⟩
  | k a u => exact ⟨k.1, h a rfl _ k.2⟩
  | q fs =>
    obtain ⟨a, e, q1, q2, q3⟩ := k
    exact ⟨a, e, h a (.inl e) _ q1, q2, fun x hx => h x.1 (.inr (List.mem_map.mpr ⟨x, hx, rfl⟩)) _ (q3 x hx)⟩
  | t P q ps =>
    obtain ⟨q1, q2, q3⟩ := k
    refine ⟨h P (.inl rfl) _ q1, q2, fun pos cv hc => ?_⟩
    obtain ⟨c, e, q4⟩ := q3 pos cv hc
    exact ⟨c, e, h c (.inr ⟨pos, by rw [← e]; exact hc⟩) _ q4⟩
  | la a xs => obtain ⟨e, ys, q, r⟩ := k; exact ⟨e, ys, h a e _ q, r.up g⟩
/-- an owned object stands -/
theorem CellOk.there {G H : Hp} {o : Option (Option V)} {c : Cell} {a : Addr} (k : CellOk G H o c) (w : Own o a c) : ∃ u, H a = some u := by
  cases c with
  | no => exact w.elim
  | d x => exact w.elim
  | p _ x => exact w.elim
  | l xs =>
    obtain ⟨a', ys, e, q, r⟩ := k
    have w : o = some (some (.ref a)) := w
    rw [w] at e; cases e; exact ⟨_, q⟩
  | m xs =>
    obtain ⟨a', ys, e, q, r⟩ := k
    have w : o = some (some (.ref a)) := w
    rw [w] at e; cases e; exact ⟨_, q⟩
  | b a' =>
    obtain ⟨e, i, j, q⟩ := k
    have w : o = some (some (.ref a)) := w
    rw [w] at e; cases e; exact ⟨_, q⟩
  | r w' => exact w.elim
  | ll rs rows =>
    obtain ⟨a', e, q, nd, r⟩ := k
    have w : o = some (some (.ref a)) ∨ a ∈ rs := w
    rcases w with w | w
    · rw [w] at e; cases e; exact ⟨_, q⟩
    · obtain ⟨ys, hy⟩ := r.there a w
      exact ⟨_, hy⟩
  | k b u =>
    have w : a = b := w
    rw [w]; exact ⟨u, k.2⟩
  | q fs =>
    obtain ⟨a', e, q1, q2, q3⟩ := k
    have w : o = some (some (.ref a)) ∨ a ∈ fs.map (·.1) := w
    rcases w with w | w
    · rw [w] at e; cases e; exact ⟨_, q1⟩
    · obtain ⟨x, hx, e'⟩ := List.mem_map.mp w
      rw [← e']; exact ⟨_, q3 x hx⟩
  | t P q ps =>
    obtain ⟨q1, q2, q3⟩ := k
    have w : a = P ∨ ∃ pos, codeAmong pos ps.toList = some (.ref a) := w
    rcases w with w | ⟨pos, w⟩
    · rw [w]; exact ⟨_, q1⟩
    · obtain ⟨c, e, q4⟩ := q3 pos _ w
      cases e; exact ⟨_, q4⟩
  | la a' xs =>
    obtain ⟨e, ys, q, r⟩ := k
    have w : o = some (some (.ref a)) := w
    rw [w] at e; cases e; exact ⟨_, q⟩

structure Ent where
  G : Hp
  H : Hp
  B : Addr → Prop
/-- the frame δ stands -/
structure Sd (e : Ent) (δ : Fm) (G H : Hp) (σ : L2.St) : Prop where
  sub : Ex G H
  grow : Ex e.G G
  old : ∀ a o, e.H a = some o → ¬ e.B a → H a = some o
  new : ∀ a, G a ≠ none → e.G a ≠ none ∨ e.H a = none
  bs : ∀ a, e.B a → H a ≠ none
  len : σ.length = δ.length
  cells : ∀ (i : Nat) (c : Cell), δ[i]? = some c → CellOk G H σ[i]? c
  own : ∀ (i : Nat) (c : Cell) (a : Addr), δ[i]? = some c → Own σ[i]? a c → (e.B a ∨ e.H a = none) ∧ G a = none
  apart : ∀ (i j : Nat) (c c' : Cell) (a : Addr), δ[i]? = some c → δ[j]? = some c' → Own σ[i]? a c → Own σ[j]? a c' → i = j
/-- what stands outside of the boxes stays -/
def Kp (δ : Fm) (σ : L2.St) (H H' : Hp) : Prop := ∀ a o, H a = some o → (∀ (i : Nat) (b : Addr), δ[i]? = some (.b b) → σ[i]? ≠ some (some (.ref a))) → H' a = some o
/-- an evaluation's way from (G, H) to (G', H') -/
structure Go (e : Ent) (δ : Fm) (σ : L2.St) (G H G' H' : Hp) : Prop where
  g : Ex G G'
  k : Kp δ σ H H'
  n : ∀ a, G' a ≠ none → G a ≠ none ∨ H a = none
  s : Sd e δ G' H' σ
section
variable {e : Ent} {δ : Fm} {G H G' H' G1 H1 : Hp} {σ : L2.St}
theorem Go.refl (S : Sd e δ G H σ) : Go e δ σ G H G H := ⟨Ex.rfl', fun _ _ h _ => h, fun _ h => .inl h, S⟩
theorem Go.trans (a : Go e δ σ G H G1 H1) (b : Go e δ σ G1 H1 G' H') : Go e δ σ G H G' H' := by
  refine ⟨a.g.tr b.g, fun x o h nb => b.k x o (a.k x o h nb) nb, fun x h => ?_, b.s⟩
  rcases b.n x h with q | q
  · exact a.n x q
  · right
    cases hx : H x with
    | none => rfl
    | some o =>
      exfalso
      by_cases nb : ∀ (i : Nat) (b : Addr), δ[i]? = some (.b b) → σ[i]? ≠ some (some (.ref x))
      · rw [a.k x o hx nb] at q; cases q
      · refine nb fun i b hi hs => ?_
        obtain ⟨u, hu⟩ := (a.s.cells i _ hi).there (a := x) hs
        rw [hu] at q; cases q
/-- all that stood stays, G grows by new things -/
structure Ext (G H G' H' : Hp) : Prop where
  g : Ex G G'
  h : Ex H H'
  s : Ex G' H'
  n : ∀ a, G' a ≠ none → G a ≠ none ∨ H a = none
theorem Ext.refl (s : Ex G H) : Ext G H G H := ⟨Ex.rfl', Ex.rfl', s, fun _ h => .inl h⟩
theorem Sd.go (S : Sd e δ G H σ) (x : Ext G H G' H') : Go e δ σ G H G' H' := by
  refine ⟨x.g, fun a o h _ => x.h a o h, x.n, ⟨x.s, S.grow.tr x.g, fun a o h nb => x.h _ _ (S.old a o h nb), fun a h => ?_, fun a h q => ?_, S.len, fun i c hc => (S.cells i c hc).up x.g fun a _ u hu => x.h a u hu, fun i c a hc w => ?_, S.apart⟩⟩
  · rcases x.n a h with q | q
    · exact S.new a q
    · right
      cases he : e.H a with
      | none => rfl
      | some o =>
        exfalso
        by_cases nb : e.B a
        · exact S.bs a nb q
        · rw [S.old a o he nb] at q; cases q
  · cases hH : H a with
    | none => exact S.bs a h hH
    | some o => rw [x.h a o hH] at q; cases q
  · obtain ⟨h1, h2⟩ := S.own i c a hc w
    refine ⟨h1, ?_⟩
    cases hG : G' a with
    | none => rfl
    | some o =>
      exfalso
      obtain ⟨u, hu⟩ := (S.cells i c hc).there w
      rcases x.n a (by rw [hG]; exact Option.some_ne_none _) with q | q
      · exact q h2
      · rw [q] at hu; cases hu
/-- a new object that nobody changes -/
theorem Ext.alloc {p : Addr} {o : HO} (s : Ex G H) (h : H p = none) : Ext G H (upd G p o) (upd H p o) := by
  have hG : G p = none := by
    cases q : G p with
    | none => rfl
    | some u => rw [s p u q] at h; cases h
  refine ⟨Ex.updN hG, Ex.updN h, fun a u q => ?_, fun a q => ?_⟩
  · by_cases z : a = p
    · subst z; rw [upd_same] at q ⊢; exact q
    · rw [upd_ne z] at q ⊢; exact s a u q
  · by_cases z : a = p
    · subst z; exact .inr h
    · rw [upd_ne z] at q; exact .inl q
/-- .. that is not told -/
theorem Ext.allocH {p : Addr} {o : HO} (s : Ex G H) (h : H p = none) : Ext G H G (upd H p o) := ⟨Ex.rfl', Ex.updN h, s.tr (Ex.updN h), fun _ q => .inl q⟩
theorem Ext.trans {G2 H2 : Hp} (a : Ext G H G' H') (b : Ext G' H' G2 H2) : Ext G H G2 H2 := ⟨a.g.tr b.g, a.h.tr b.h, b.s, fun x h => by
  rcases b.n x h with q | q
  · exact a.n x q
  · right
    cases hx : H x with
    | none => rfl
    | some o => rw [a.h x o hx] at q; cases q⟩
/-- a thing that stood and was not told is told -/
theorem Ext.tell {p : Addr} {o : HO} (x : Ext G H G' H') (hp : H p = none) (h : H' p = some o) : Ext G H (upd G' p o) H' := by
  refine ⟨fun a u q => ?_, x.h, fun a u q => ?_, fun a q => ?_⟩
  · by_cases z : a = p
    · subst z
      have := x.s _ _ (x.g _ _ q)
      rw [upd_same, ← h, this]
    · rw [upd_ne z]; exact x.g a u q
  · by_cases z : a = p
    · subst z; rw [upd_same] at q; rw [h]; exact q
    · rw [upd_ne z] at q; exact x.s a u q
  · by_cases z : a = p
    · subst z; exact .inr hp
    · rw [upd_ne z] at q; exact x.n a q

/-! ### slots -/
theorem Sd.setC (S : Sd e δ G H σ) {i : Nat} {v : V} {c : Cell} (hc : CellOk G H (some (some v)) c) (hw : ∀ a, Own (some (some v)) a c → (e.B a ∨ e.H a = none) ∧ G a = none ∧ ∀ (j : Nat) (c' : Cell), j ≠ i → δ[j]? = some c' → ¬ Own σ[j]? a c') :
    Sd e (δ.set i c) G H (σ.set i (some v)) := by
  have at_ : ∀ {j : Nat} {c' : Cell}, (δ.set i c)[j]? = some c' → (j = i ∧ c' = c ∧ (σ.set i (some v))[j]? = some (some v)) ∨ (j ≠ i ∧ δ[j]? = some c' ∧ (σ.set i (some v))[j]? = σ[j]?) := fun {j c'} h => by
    by_cases z : j = i
    · subst z
      have hl : j < δ.length := by
        have := (List.getElem?_eq_some_iff.mp h).1
        simpa using this
      rw [List.getElem?_set_self hl] at h
      exact .inl ⟨rfl, (Option.some.inj h).symm, List.getElem?_set_self (by rw [S.len]; exact hl)⟩
    · rw [List.getElem?_set_ne (Ne.symm z)] at h
      exact .inr ⟨z, h, List.getElem?_set_ne (Ne.symm z)⟩
  refine ⟨S.sub, S.grow, S.old, S.new, S.bs, by simp [S.len], fun j c' h => ?_, fun j c' a h w => ?_, fun j k c1 c2 a h1 h2 w1 w2 => ?_⟩
  · rcases at_ h with ⟨_, e2, e3⟩ | ⟨_, e2, e3⟩
    · rw [e3, e2]; exact hc
    · rw [e3]; exact S.cells j c' e2
  · rcases at_ h with ⟨_, e2, e3⟩ | ⟨_, e2, e3⟩
    · rw [e3, e2] at w
      obtain ⟨k1, k2, _⟩ := hw a w
      exact ⟨k1, k2⟩
    · rw [e3] at w; exact S.own j c' a e2 w
  · rcases at_ h1 with ⟨q1, e2, e3⟩ | ⟨q1, e2, e3⟩ <;> rcases at_ h2 with ⟨q2, f2, f3⟩ | ⟨q2, f2, f3⟩
    · rw [q1, q2]
    · exfalso
      rw [e3, e2] at w1; rw [f3] at w2
      exact (hw a w1).2.2 k c2 q2 f2 w2
    · exfalso
      rw [f3, f2] at w2; rw [e3] at w1
      exact (hw a w2).2.2 j c1 q1 e2 w1
    · rw [e3] at w1; rw [f3] at w2
      exact S.apart j k c1 c2 a e2 f2 w1 w2
theorem Sd.setD (S : Sd e δ G H σ) {i : Nat} {v : V} {x : PyData} (h : Dg G v x) : Sd e (δ.set i (.d x)) G H (σ.set i (some v)) := S.setC ⟨v, rfl, h⟩ fun _ w => w.elim
/-- an object of nobody's -/
structure Nob (e : Ent) (δ : Fm) (σ : L2.St) (G H : Hp) (p : Addr) (o : HO) : Prop where
  at_ : H p = some o
  eh : e.H p = none
  gn : G p = none
  no : ∀ (j : Nat) (c : Cell), δ[j]? = some c → ¬ Own σ[j]? p c
theorem Sd.eh (S : Sd e δ G H σ) {p : Addr} (h : H p = none) : e.H p = none := by
  cases he : e.H p with
  | none => rfl
  | some o =>
    exfalso
    by_cases nb : e.B p
    · exact S.bs p nb h
    · rw [S.old p o he nb] at h; cases h
theorem Sd.gn (S : Sd e δ G H σ) {p : Addr} (h : H p = none) : G p = none := by
  cases q : G p with
  | none => rfl
  | some u => rw [S.sub p u q] at h; cases h
theorem Sd.no (S : Sd e δ G H σ) {p : Addr} (h : H p = none) : ∀ (j : Nat) (c : Cell), δ[j]? = some c → ¬ Own σ[j]? p c := fun j c hc w => by
  obtain ⟨u, hu⟩ := (S.cells j c hc).there w
  rw [h] at hu; cases hu
theorem Nob.new (S : Sd e δ G H σ) {p : Addr} {o : HO} (h : H p = none) : Nob e δ σ G (upd H p o) p o := ⟨upd_same, S.eh h, S.gn h, S.no h⟩
theorem Nob.go {p : Addr} {o : HO} (n : Nob e δ σ G H p o) (w : Go e δ σ G H G' H') : Nob e δ σ G' H' p o := by
  refine ⟨w.k p o n.at_ fun i b hi hs => n.no i (.b b) hi hs, n.eh, ?_, n.no⟩
  cases q : G' p with
  | none => rfl
  | some u =>
    exfalso
    rcases w.n p (by rw [q]; exact Option.some_ne_none _) with z | z
    · exact z n.gn
    · rw [n.at_] at z; cases z
/-- it is told -/
theorem Nob.tell {p : Addr} {o : HO} (n : Nob e δ σ G H p o) (S : Sd e δ G H σ) : Go e δ σ G H (upd G p o) H → Sd e δ (upd G p o) H σ := fun w => w.s
theorem Sd.tell (S : Sd e δ G H σ) {p : Addr} {o : HO} (n : Nob e δ σ G H p o) : Sd e δ (upd G p o) H σ := by
  have g : Ex G (upd G p o) := Ex.updN n.gn
  refine ⟨fun a u q => ?_, S.grow.tr g, S.old, fun a q => ?_, S.bs, S.len, fun i c hc => (S.cells i c hc).up g fun _ _ _ hu => hu, fun i c a hc w => ?_, S.apart⟩
  · by_cases z : a = p
    · subst z; rw [upd_same] at q; rw [n.at_]; exact q
    · rw [upd_ne z] at q; exact S.sub a u q
  · by_cases z : a = p
    · subst z; exact .inr n.eh
    · rw [upd_ne z] at q; exact S.new a q
  · obtain ⟨h1, h2⟩ := S.own i c a hc w
    refine ⟨h1, ?_⟩
    rw [upd_ne (show a ≠ p from fun z => n.no i c hc (by rw [← z]; exact w))]; exact h2
/-- an owned list, made anew -/
theorem Sd.setL (S : Sd e δ G H σ) {i : Nat} {p : Addr} {ys : List V} {xs : List PyData} (n : Nob e δ σ G H p (.lst ys)) (h : DgAll G ys xs) : Sd e (δ.set i (.l xs)) G H (σ.set i (some (.ref p))) :=
  S.setC ⟨p, ys, rfl, n.at_, h⟩ fun a w => by
    have w : (some (some (V.ref p)) : Option (Option V)) = some (some (.ref a)) := w
    cases w
    exact ⟨.inr n.eh, n.gn, fun j c _ hc => n.no j c hc⟩
theorem Sd.setM (S : Sd e δ G H σ) {i : Nat} {p : Addr} {ks : List (Key × V)} {kvs : List (PyData × PyData)} (n : Nob e δ σ G H p (.dK ks)) (h : DgKv G ks kvs) : Sd e (δ.set i (.m kvs)) G H (σ.set i (some (.ref p))) :=
  S.setC ⟨p, ks, rfl, n.at_, h⟩ fun a w => by
    have w : (some (some (V.ref p)) : Option (Option V)) = some (some (.ref a)) := w
    cases w
    exact ⟨.inr n.eh, n.gn, fun j c _ hc => n.no j c hc⟩
theorem Sd.setB (S : Sd e δ G H σ) {i : Nat} {p : Addr} {x y : Int} (n : Nob e δ σ G H p (.lst [.int x, .int y])) : Sd e (δ.set i (.b p)) G H (σ.set i (some (.ref p))) :=
  S.setC ⟨rfl, x, y, n.at_⟩ fun a w => by
    have w : (some (some (V.ref p)) : Option (Option V)) = some (some (.ref a)) := w
    cases w
    exact ⟨.inr n.eh, n.gn, fun j c _ hc => n.no j c hc⟩
/-- an owned object changed -/
theorem Sd.mut (S : Sd e δ G H σ) {i : Nat} {c c' : Cell} {p : Addr} {o : HO} (hc : δ[i]? = some c) (hw : Own σ[i]? p c) (hw' : ∀ a, Own σ[i]? a c' → Own σ[i]? a c) (ok : CellOk G (upd H p o) σ[i]? c') :
    Sd e (δ.set i c') G (upd H p o) σ := by
  obtain ⟨w1, w2⟩ := S.own i c p hc hw
  have hl : i < δ.length := (List.getElem?_eq_some_iff.mp hc).1
  have gp : ∀ {a u}, G a = some u → a ≠ p := fun {a u} q z => by subst z; rw [w2] at q; cases q
  have at_ : ∀ {j : Nat} {d : Cell}, (δ.set i c')[j]? = some d → (j = i ∧ d = c') ∨ (j ≠ i ∧ δ[j]? = some d) := fun {j d} h => by
    by_cases z : j = i
    · subst z; rw [List.getElem?_set_self hl] at h; exact .inl ⟨rfl, (Option.some.inj h).symm⟩
    · rw [List.getElem?_set_ne (Ne.symm z)] at h; exact .inr ⟨z, h⟩
  refine ⟨fun a u q => by rw [upd_ne (gp q)]; exact S.sub a u q, S.grow, fun a u q nb => ?_, S.new, fun a h q => ?_, by simp [S.len], fun j d h => ?_, fun j d a h w => ?_, fun j k c1 c2 a h1 h2 v1 v2 => ?_⟩
  · have : a ≠ p := fun z => by
      subst z
      rcases w1 with z | z
      · exact nb z
      · rw [z] at q; cases q
    rw [upd_ne this]; exact S.old a u q nb
  · by_cases z : a = p
    · subst z; rw [upd_same] at q; cases q
    · rw [upd_ne z] at q; exact S.bs a h q
  · rcases at_ h with ⟨z, e2⟩ | ⟨z, h'⟩
    · subst z; rw [e2]; exact ok
    · refine (S.cells j d h').up Ex.rfl' fun a w u hu => ?_
      have : a ≠ p := fun q => by subst q; exact z (S.apart j i d c a h' hc w hw)
      rw [upd_ne this]; exact hu
  · rcases at_ h with ⟨z, e2⟩ | ⟨z, h'⟩
    · subst z; rw [e2] at w; exact S.own j c a hc (hw' a w)
    · exact S.own j d a h' w
  · rcases at_ h1 with ⟨z1, e1⟩ | ⟨z1, h1'⟩ <;> rcases at_ h2 with ⟨z2, e2⟩ | ⟨z2, h2'⟩
    · rw [z1, z2]
    · subst z1; rw [e1] at v1; exact S.apart j k c c2 a hc h2' (hw' a v1) v2
    · subst z2; rw [e2] at v2; exact S.apart j k c1 c a h1' hc v1 (hw' a v2)
    · exact S.apart j k c1 c2 a h1' h2' v1 v2
/-- forgetting -/
theorem Sd.weak (S : Sd e δ G H σ) {i : Nat} {c' : Cell} (hw : ∀ a, ¬ Own σ[i]? a c') (ok : CellOk G H σ[i]? c') : Sd e (δ.set i c') G H σ := by
  have at_ : ∀ {j : Nat} {d : Cell}, (δ.set i c')[j]? = some d → (j = i ∧ d = c') ∨ δ[j]? = some d := fun {j d} h => by
    by_cases z : j = i
    · subst z
      have hl : j < δ.length := by simpa using (List.getElem?_eq_some_iff.mp h).1
      rw [List.getElem?_set_self hl] at h; exact .inl ⟨rfl, (Option.some.inj h).symm⟩
    · rw [List.getElem?_set_ne (Ne.symm z)] at h; exact .inr h
  refine ⟨S.sub, S.grow, S.old, S.new, S.bs, by simp [S.len], fun j d h => ?_, fun j d a h w => ?_, fun j k c1 c2 a h1 h2 v1 v2 => ?_⟩
  · rcases at_ h with ⟨z, e2⟩ | h'
    · subst z; rw [e2]; exact ok
    · exact S.cells j d h'
  · rcases at_ h with ⟨z, e2⟩ | h'
    · subst z; rw [e2] at w; exact (hw a w).elim
    · exact S.own j d a h' w
  · rcases at_ h1 with ⟨z1, e1⟩ | h1' <;> rcases at_ h2 with ⟨z2, e2⟩ | h2'
    · rw [z1, z2]
    · subst z1; rw [e1] at v1; exact (hw a v1).elim
    · subst z2; rw [e2] at v2; exact (hw a v2).elim
    · exact S.apart j k c1 c2 a h1' h2' v1 v2
theorem Sd.forget (S : Sd e δ G H σ) (i : Nat) : Sd e (δ.set i .no) G H σ := S.weak (fun _ w => w) trivial
/-- an owned list is let stand: data from now on -/
theorem Sd.freeze (S : Sd e δ G H σ) {i : Nat} {xs : List PyData} (hc : δ[i]? = some (.l xs)) (nb : ∀ a, σ[i]? = some (some (.ref a)) → ¬ e.B a) : ∃ G', Ex G G' ∧ Sd e (δ.set i (.d (.list xs))) G' H σ := by
  obtain ⟨a, ys, h1, h2, h3⟩ := S.cells i _ hc
  obtain ⟨w1, w2⟩ := S.own i _ a hc h1
  have eh : e.H a = none := by
    rcases w1 with z | z
    · exact absurd z (nb a h1)
    · exact z
  have hl : i < δ.length := (List.getElem?_eq_some_iff.mp hc).1
  have S1 := S.forget i
  have n : Nob e (δ.set i .no) σ G H a (.lst ys) := ⟨h2, eh, w2, fun j c hj w => by
    by_cases z : j = i
    · subst z; rw [List.getElem?_set_self hl] at hj; cases hj; exact w
    · rw [List.getElem?_set_ne (Ne.symm z)] at hj
      exact z (S.apart j i c _ a hj hc w h1)⟩
  have S2 := S1.tell n
  have g : Ex G (upd G a (.lst ys)) := Ex.updN w2
  refine ⟨upd G a (.lst ys), g, ?_⟩
  have S3 := S2.weak (i := i) (c' := .d (.list xs)) (fun _ w => w) ⟨.ref a, h1, .lst upd_same (h3.up g)⟩
  rw [List.set_set] at S3
  exact S3
theorem Sd.freezeM (S : Sd e δ G H σ) {i : Nat} {kvs : List (PyData × PyData)} (hc : δ[i]? = some (.m kvs)) (nb : ∀ a, σ[i]? = some (some (.ref a)) → ¬ e.B a) : ∃ G', Ex G G' ∧ Sd e (δ.set i (.d (.dict kvs))) G' H σ := by
  obtain ⟨a, ys, h1, h2, h3⟩ := S.cells i _ hc
  obtain ⟨w1, w2⟩ := S.own i _ a hc h1
  have eh : e.H a = none := by
    rcases w1 with z | z
    · exact absurd z (nb a h1)
    · exact z
  have hl : i < δ.length := (List.getElem?_eq_some_iff.mp hc).1
  have S1 := S.forget i
  have n : Nob e (δ.set i .no) σ G H a (.dK ys) := ⟨h2, eh, w2, fun j c hj w => by
    by_cases z : j = i
    · subst z; rw [List.getElem?_set_self hl] at hj; cases hj; exact w
    · rw [List.getElem?_set_ne (Ne.symm z)] at hj
      exact z (S.apart j i c _ a hj hc w h1)⟩
  have S2 := S1.tell n
  have g : Ex G (upd G a (.dK ys)) := Ex.updN w2
  refine ⟨upd G a (.dK ys), g, ?_⟩
  have S3 := S2.weak (i := i) (c' := .d (.dict kvs)) (fun _ w => w) ⟨.ref a, h1, .dic upd_same (h3.up g)⟩
  rw [List.set_set] at S3
  exact S3
end
end DL
/-! what expressions, tests, arguments come to, over frames -/
namespace DL
open PySem L2
/-! ### a def's promise over data; C: the class of what may be raised, with the refused argument -/
def SP {α : Type} (C : Addr) (enc : α → List PyData) (pre : α → Prop) (bad : α → Option Nat) (R : α → PyData → Prop) : Sp := fun vs H Q E => ∃ G p, Ex G H ∧ DgAll G vs (enc p) ∧ pre p ∧
  (bad p = none → ∀ v d G' H', R p d → Ext G H G' H' → Dg G' v d → Q v H') ∧
  (∀ k w, bad p = some k → vs[k]? = some w → ∀ dx H', Ext G H G H' → H dx = none → H' dx = some (.xd [("at", w)]) → E (.ref C) (some dx) H')
theorem SP.len {α : Type} {C : Addr} {enc : α → List PyData} {pre : α → Prop} {bad : α → Option Nat} {R : α → PyData → Prop} {n : Nat} (hn : ∀ p, (enc p).length = n) {vs : List V} {H : Hp} {Q : VK} {E : XK} (h : SP C enc pre bad R vs H Q E) : vs.length = n := by
  obtain ⟨G, p, _, h2, _⟩ := h
  rw [h2.len, hn]
def never {α : Type} : α → Option Nat := fun _ => none

def ER (e : Ent) (te : TE) (δ : Fm) (R : PyData → Prop) : Prop := ∀ σ G H (Q : VK), Sd e δ G H σ → (∀ d v G' H', R d → Go e δ σ G H G' H' → Dg G' v d → Q v H') → te σ H Q
def ET (e : Ent) (tt : TT) (δ : Fm) (R : Bool → Prop) : Prop := ∀ σ G H (Q : Bool → Hp → Prop), Sd e δ G H σ → (∀ b G' H', R b → Go e δ σ G H G' H' → Q b H') → tt σ H Q
def EA (e : Ent) (ta : TA) (δ : Fm) (R : List PyData → Prop) : Prop := ∀ σ G H (Q : List V → Hp → Prop), Sd e δ G H σ → (∀ ds vs G' H', R ds → Go e δ σ G H G' H' → DgAll G' vs ds → Q vs H') → ta σ H Q
/-- a new list -/
def EL (e : Ent) (te : TE) (δ : Fm) (R : List PyData → Prop) : Prop := ∀ σ G H (Q : VK), Sd e δ G H σ →
  (∀ xs p ys G' H', R xs → Go e δ σ G H G' H' → Nob e δ σ G' H' p (.lst ys) → H p = none → DgAll G' ys xs → Q (.ref p) H') → te σ H Q
abbrev ED (e : Ent) (te : TE) (δ : Fm) (d : PyData) : Prop := ER e te δ (fun x => x = d)
abbrev EB (e : Ent) (tt : TT) (δ : Fm) (b : Bool) : Prop := ET e tt δ (fun x => x = b)
abbrev EAD (e : Ent) (ta : TA) (δ : Fm) (ds : List PyData) : Prop := EA e ta δ (fun x => x = ds)
abbrev ELD (e : Ent) (te : TE) (δ : Fm) (ds : List PyData) : Prop := EL e te δ (fun x => x = ds)
section
variable {e : Ent} {δ : Fm} {te ta tb : TE} {tt t u : TT} {R Ra Rb : PyData → Prop} {d da db : PyData} {K : PySem.W.Frag}
theorem ER.mono (h : ER e te δ Ra) (i : ∀ d, Ra d → R d) : ER e te δ R := fun σ G H Q S k => h σ G H Q S fun d v G' H' r g x => k d v G' H' (i d r) g x
theorem ER.is {d' : PyData} (h : ED e te δ d) (i : d = d') : ED e te δ d' := i ▸ h
theorem ER.to (h : ED e te δ d) (i : R d) : ER e te δ R := h.mono fun _ q => q ▸ i
theorem ET.mono {Ra R : Bool → Prop} (h : ET e tt δ Ra) (i : ∀ d, Ra d → R d) : ET e tt δ R := fun σ G H Q S k => h σ G H Q S fun d G' H' r g => k d G' H' (i d r) g
theorem ET.is {b b' : Bool} (h : EB e tt δ b) (i : b = b') : EB e tt δ b' := i ▸ h
theorem EL.mono {Ra R : List PyData → Prop} (h : EL e te δ Ra) (i : ∀ d, Ra d → R d) : EL e te δ R := fun σ G H Q S k => h σ G H Q S fun d p ys G' H' r g n a x => k d p ys G' H' (i d r) g n a x
theorem EL.is {ds ds' : List PyData} (h : ELD e te δ ds) (i : ds = ds') : ELD e te δ ds' := i ▸ h
theorem Go.tell {σ : L2.St} {G H G' H' : Hp} {p : Addr} {o : HO} (w : Go e δ σ G H G' H') (n : Nob e δ σ G' H' p o) (hp : H p = none) : Go e δ σ G H (upd G' p o) H' :=
  ⟨w.g.tr (Ex.updN n.gn), w.k, fun a q => by
    by_cases z : a = p
    · subst z; exact .inr hp
    · rw [upd_ne z] at q; exact w.n a q, w.s.tell n⟩
theorem el_er {Rl : List PyData → Prop} (h : EL e te δ Rl) (i : ∀ xs, Rl xs → R (.list xs)) : ER e te δ R := fun σ G H Q S k => h σ G H Q S fun xs p ys G' H' r g n hp a =>
  k (.list xs) (.ref p) (upd G' p (.lst ys)) H' (i xs r) (g.tell n hp) (.lst upd_same (a.up (Ex.updN n.gn)))
theorem el_ed {ds : List PyData} (h : ELD e te δ ds) : ED e te δ (.list ds) := el_er h fun _ q => by rw [q]

/-! ### names, constants -/
def cellD : Cell → Option PyData
  | .d x => some x
  | .p _ x => some x
  | _ => none
theorem Sd.var {σ : L2.St} {G H : Hp} (S : Sd e δ G H σ) {i : Nat} (h : (δ[i]?).bind cellD = some d) : ∃ v, σ[i]? = some (some v) ∧ Dg G v d := by
  cases hc : δ[i]? with
  | none => (rw [hc] at h; cases h)
  | some c =>
    rw [hc] at h
    have k := S.cells i c hc
    cases c with
    | d x =>
      have h : some x = some d := h
      cases h; exact k
    | p w x =>
      have h : some x = some d := h
      cases h; exact ⟨w, k.1, k.2⟩
    | no => cases h
    | l _ => cases h
    | m _ => cases h
    | b _ => cases h
    | r _ => cases h
    | ll _ _ => cases h
    | k _ _ => cases h
    | q _ => cases h
    | t _ _ _ => cases h
    | la _ _ => cases h
theorem ed_var {i : Nat} (h : (δ[i]?).bind cellD = some d) : ED e (tVar i) δ d := fun σ G H Q S k => by
  obtain ⟨v, h1, h2⟩ := S.var h
  exact ⟨v, h1, k d v G H rfl (Go.refl S) h2⟩
theorem ed_c {v : V} (h : ∀ G, Dg G v d) : ED e (tC v) δ d := fun σ G H Q S k => k d v G H rfl (Go.refl S) (h G)
theorem ed_int {i : Int} : ED e (tC (.int i)) δ (.int i) := ed_c fun _ => .int i
theorem ed_non : ED e (tC .non) δ .none := ed_c fun _ => .non
theorem ed_bl {b : Bool} : ED e (tC (.bl b)) δ (.bool b) := ed_c fun _ => .bl b
theorem ed_str {x : Str} : ED e (tC (.str x)) δ (.str x) := ed_c fun _ => .str x

/-! ### operations upon values -/
def OV (r : R2) (da db : PyData) (R : PyData → Prop) : Prop := ∀ G H x y (Q : VK), Ex G H → Dg G x da → Dg G y db → (∀ d v, R d → Dg G v d → Q v H) → r x y H Q
theorem er_op {r : R2} (ha : ER e ta δ Ra) (hb : ER e tb δ Rb) (h : ∀ da db, Ra da → Rb db → OV r da db R) : ER e (tOp r ta tb) δ R := fun σ G H Q S k =>
  ha σ G H _ S fun da x G1 H1 r1 g1 x1 => hb σ G1 H1 _ g1.s fun db y G2 H2 r2 g2 y2 =>
    h da db r1 r2 G2 H2 x y Q g2.s.sub (x1.up g2.g) y2 fun d v rd dg => k d v G2 H2 rd (g1.trans g2) dg
theorem ed_op {r : R2} (ha : ED e ta δ da) (hb : ED e tb δ db) (h : OV r da db R) : ER e (tOp r ta tb) δ R := er_op ha hb fun _ _ h1 h2 => by rw [h1, h2]; exact h
theorem ov_I0 {g : Int → Int → V} {i j : Int} (hd : ∀ G, Dg G (g i j) d) : OV (rI0 g) (.int i) (.int j) (fun x => x = d) := fun G H x y Q _ hx hy k => by
  cases hx; cases hy
  exact ⟨i, j, rfl, rfl, k d _ rfl (hd G)⟩
theorem ov_I {C : Int → Int → Prop} {g : Int → Int → V} {i j : Int} (hc : C i j) (hd : ∀ G, Dg G (g i j) d) : OV (rI C g) (.int i) (.int j) (fun x => x = d) := fun G H x y Q _ hx hy k => by
  cases hx; cases hy
  exact ⟨i, j, rfl, rfl, hc, k d _ rfl (hd G)⟩
theorem ed_add {i j : Int} (ha : ED e ta δ (.int i)) (hb : ED e tb δ (.int j)) : ED e (tOp (rI0 fun i j => .int (i + j)) ta tb) δ (.int (i + j)) := ed_op ha hb (ov_I0 fun _ => .int _)
theorem ed_sub {i j : Int} (ha : ED e ta δ (.int i)) (hb : ED e tb δ (.int j)) : ED e (tOp (rI0 fun i j => .int (i - j)) ta tb) δ (.int (i - j)) := ed_op ha hb (ov_I0 fun _ => .int _)
theorem ed_mul {i j : Int} (ha : ED e ta δ (.int i)) (hb : ED e tb δ (.int j)) (hc : CMul i j) : ED e (tOp (rI CMul fun i j => .int (i * j)) ta tb) δ (.int (i * j)) := ed_op ha hb (ov_I hc fun _ => .int _)
theorem ed_lt {i j : Int} (ha : ED e ta δ (.int i)) (hb : ED e tb δ (.int j)) : ED e (tOp (rI0 fun i j => .bl (decide (i < j))) ta tb) δ (.bool (decide (i < j))) := ed_op ha hb (ov_I0 fun _ => .bl _)
theorem ed_le {i j : Int} (ha : ED e ta δ (.int i)) (hb : ED e tb δ (.int j)) : ED e (tOp (rI0 fun i j => .bl (decide (i ≤ j))) ta tb) δ (.bool (decide (i ≤ j))) := ed_op ha hb (ov_I0 fun _ => .bl _)
theorem ed_gt {i j : Int} (ha : ED e ta δ (.int i)) (hb : ED e tb δ (.int j)) : ED e (tOp (rI0 fun i j => .bl (decide (j < i))) ta tb) δ (.bool (decide (j < i))) := ed_op ha hb (ov_I0 fun _ => .bl _)
theorem ed_ge {i j : Int} (ha : ED e ta δ (.int i)) (hb : ED e tb δ (.int j)) : ED e (tOp (rI0 fun i j => .bl (decide (j ≤ i))) ta tb) δ (.bool (decide (j ≤ i))) := ed_op ha hb (ov_I0 fun _ => .bl _)
theorem ed_neg {i : Int} (ha : ED e ta δ (.int i)) : ED e (tUn (rU fun i => .int (-i)) ta) δ (.int (-i)) := fun σ G H Q S k => ha σ G H _ S fun d x G1 H1 r g q => by
  subst r; cases q
  exact ⟨i, rfl, k _ _ G1 H1 rfl g (.int _)⟩
mutual
/-- data without a dict, to any depth -/
theorem Dg.dp {G H : Hp} (s : Ex G H) : ∀ {v : V} {d : PyData}, Dg G v d → d.canLay0 = true → Dp K H v d
  | _, _, .non, _ => .non
  | _, _, .bl b, _ => .bl b
  | _, _, .int i, _ => .int i
  | _, _, .str x, _ => .str x
  | _, _, .lst h r, c => .lst (SqL.of (s _ _ h)) (DgAll.dp s r (by simpa [PyData.canLay0] using c))
  | _, _, .tup h r, c => .tup (SqT.of (s _ _ h)) (DgAll.dp s r (by simpa [PyData.canLay0] using c))
  | _, _, .dic h r, c => by simp [PyData.canLay0] at c
theorem DgAll.dp {G H : Hp} (s : Ex G H) : ∀ {v : List V} {d : List PyData}, DgAll G v d → PyData.canLayAll0 d = true → DpAll K H v d
  | _, _, .nil, _ => .nil
  | _, _, .cons (d := d) (ds := ds) h r, c => by
    have c' : d.canLay0 = true ∧ PyData.canLayAll0 ds = true := by simpa [PyData.canLayAll0] using c
    exact .cons (Dg.dp s h c'.1) (DgAll.dp s r c'.2)
end
abbrev shp (d : PyData) : Bool := SeqAt.shaped d
theorem ov_eqD (h1 : shp da = true) (h2 : shp db = true) : OV (rEqD K) da db (fun x => x = .bool (PyData.eqv da db)) := fun G H x y Q s hx hy k =>
  ⟨da, db, hx.dp s (SeqAt.canLay_of_shaped h1), hy.dp s (SeqAt.canLay_of_shaped h2), h1, h2, k _ _ rfl (.bl _)⟩
theorem ov_neD (h1 : shp da = true) (h2 : shp db = true) : OV (rNeD K) da db (fun x => x = .bool (!PyData.eqv da db)) := fun G H x y Q s hx hy k =>
  ⟨da, db, hx.dp s (SeqAt.canLay_of_shaped h1), hy.dp s (SeqAt.canLay_of_shaped h2), h1, h2, k _ _ rfl (.bl _)⟩
theorem ed_eqD (ha : ED e ta δ da) (hb : ED e tb δ db) (h1 : shp da = true) (h2 : shp db = true) : ED e (tOp (rEqD K) ta tb) δ (.bool (PyData.eqv da db)) := ed_op ha hb (ov_eqD h1 h2)
theorem ed_neD (ha : ED e ta δ da) (hb : ED e tb δ db) (h1 : shp da = true) (h2 : shp db = true) : ED e (tOp (rNeD K) ta tb) δ (.bool (!PyData.eqv da db)) := ed_op ha hb (ov_neD h1 h2)
def isNone : PyData → Bool
  | .none => true
  | _ => false
theorem isNone_v {G : Hp} {v : V} (h : Dg G v d) : decide (v = .non) = isNone d := by
  cases h <;> simp [isNone]
theorem ed_isN (ha : ED e ta δ d) : ED e (tOp (fun x y H Q => y = .non ∧ Q (.bl (decide (x = .non))) H) ta (tC .non)) δ (.bool (isNone d)) :=
  ed_op ha ed_non fun G H x y Q _ hx hy k => by
    cases hy
    refine ⟨rfl, k _ _ rfl ?_⟩
    rw [isNone_v hx]; exact .bl _
theorem ed_notN (ha : ED e ta δ d) : ED e (tOp (fun x y H Q => y = .non ∧ Q (.bl (!decide (x = .non))) H) ta (tC .non)) δ (.bool (!isNone d)) :=
  ed_op ha ed_non fun G H x y Q _ hx hy k => by
    cases hy
    refine ⟨rfl, k _ _ rfl ?_⟩
    rw [isNone_v hx]; exact .bl _
/-- an item of a list or a tuple -/
inductive SeqD : PyData → List PyData → Prop
  | l {ds : List PyData} : SeqD (.list ds) ds
  | t {ds : List PyData} : SeqD (.tuple ds) ds
theorem ov_ix {ds : List PyData} {i : Int} (hs : SeqD da ds) (h : atI ds i = some d) : OV (rIx K) da (.int i) (fun x => x = d) := fun G H x y Q s hx hy k => by
  cases hy
  obtain ⟨j, h1, h2, h3, h4, h5⟩ := atI_get h
  cases hs with
  | l =>
    cases hx with
    | @lst a xs _ e q =>
      obtain ⟨v, hv, dv⟩ := q.get h2
      have hl := q.len
      have : atI xs i = some v := by
        unfold atI at h ⊢
        obtain ⟨j', hj, hj2⟩ := Option.bind_eq_some_iff.mp h
        rw [hl, hj]
        show xs[j']? = some v
        have e1 := (ixN_seq hj).1
        rw [h1] at e1; cases e1
        exact hv
      exact .inl ⟨a, xs, i, v, rfl, rfl, SqL.of (s _ _ e), this, k _ _ rfl dv⟩
  | t =>
    cases hx with
    | @tup a xs _ e q =>
      obtain ⟨v, hv, dv⟩ := q.get h2
      have hl := q.len
      have : atI xs i = some v := by
        unfold atI at h ⊢
        obtain ⟨j', hj, hj2⟩ := Option.bind_eq_some_iff.mp h
        rw [hl, hj]
        show xs[j']? = some v
        have e1 := (ixN_seq hj).1
        rw [h1] at e1; cases e1
        exact hv
      exact .inr (.inl ⟨a, xs, i, v, rfl, rfl, SqT.of (s _ _ e), this, k _ _ rfl dv⟩)
theorem ed_ix {ds : List PyData} {n : Nat} (ha : ED e ta δ da) (hb : ED e tb δ (.int (n : Int))) (hs : SeqD da ds) (h : ds[n]? = some d) : ED e (tOp (rIx K) ta tb) δ d := ed_op ha hb (ov_ix hs (atI_nat h))
theorem ed_ixC {ds : List PyData} {i : Int} (ha : ED e ta δ da) (hb : ED e tb δ (.int i)) (hs : SeqD da ds) (h : atI ds i = some d) : ED e (tOp (rIx K) ta tb) δ d := ed_op ha hb (ov_ix hs h)
/-- in a sequence of ints -/
theorem inV_ints (i : Int) : ∀ ns : List Int, inV (.int i) (ns.map V.int) = decide (i ∈ ns)
  | [] => rfl
  | n :: ns => by
    have ih := inV_ints i ns
    unfold inV at ih ⊢
    rw [List.map_cons, List.any_cons, ih]
    have : eqV (.int n) (.int i) = decide (n = i) := by
      show (n == i) = _
      by_cases q : n = i <;> simp [q]
    rw [this]
    by_cases q : i = n
    · subst q; simp
    · have q' : ¬ n = i := fun z => q z.symm
      simp [q, q']
theorem flat_ints : ∀ ns : List Int, (ns.map V.int).all flatV = true
  | [] => rfl
  | n :: ns => by rw [List.map_cons, List.all_cons, flat_ints ns]; rfl
theorem ov_in {neg : Bool} {ns : List Int} {i : Int} (hs : SeqD db (ns.map PyData.int)) : OV (rIn K neg) (.int i) db (fun x => x = .bool (if neg then !decide (i ∈ ns) else decide (i ∈ ns))) := fun G H x y Q s hx hy k => by
  cases hx
  cases hs with
  | l =>
    cases hy with
    | lst e q =>
      have := q.ints
      subst this
      refine ⟨_, _, rfl, .inl (SqL.of (s _ _ e)), rfl, flat_ints ns, k _ _ rfl ?_⟩
      rw [inV_ints]; exact .bl _
  | t =>
    cases hy with
    | tup e q =>
      have := q.ints
      subst this
      refine ⟨_, _, rfl, .inr (SqT.of (s _ _ e)), rfl, flat_ints ns, k _ _ rfl ?_⟩
      rw [inV_ints]; exact .bl _
theorem ed_in {ns : List Int} {i : Int} (ha : ED e ta δ (.int i)) (hb : ED e tb δ db) (hs : SeqD db (ns.map PyData.int)) : ED e (tOp (rIn K false) ta tb) δ (.bool (decide (i ∈ ns))) := ed_op ha hb (ov_in hs)
theorem ed_notIn {ns : List Int} {i : Int} (ha : ED e ta δ (.int i)) (hb : ED e tb δ db) (hs : SeqD db (ns.map PyData.int)) : ED e (tOp (rIn K true) ta tb) δ (.bool (!decide (i ∈ ns))) := ed_op ha hb (ov_in hs)
/-- None in a list of numbers and None -/
def optD : Option Int → PyData
  | none => .none
  | some i => .int i
def optV : Option Int → V
  | none => .non
  | some i => .int i
theorem dg_opt {G : Hp} {v : V} : ∀ {o : Option Int}, Dg G v (optD o) → v = optV o
  | none, .non => rfl
  | some i, .int _ => rfl
theorem dg_opts {G : Hp} : ∀ {os : List (Option Int)} {vs : List V}, DgAll G vs (os.map optD) → vs = os.map optV
  | [], _, .nil => rfl
  | o :: os, _, .cons h r => by rw [List.map_cons, dg_opt h, dg_opts r]
theorem of_opt {G : Hp} : ∀ o : Option Int, Dg G (optV o) (optD o)
  | none => .non
  | some i => .int i
theorem none_opts : ∀ os : List (Option Int), inV .non (os.map optV) = decide (none ∈ os) ∧ (os.map optV).all flatV = true
  | [] => ⟨rfl, rfl⟩
  | o :: os => by
    obtain ⟨h1, h2⟩ := none_opts os
    refine ⟨?_, ?_⟩
    · unfold inV at h1 ⊢
      rw [List.map_cons, List.any_cons, h1]
      cases o <;> simp [optV, eqV]
    · rw [List.map_cons, List.all_cons, h2]
      cases o <;> rfl
theorem ed_noneIn {os : List (Option Int)} (hb : ED e tb δ (.list (os.map optD))) : ED e (tOp (rIn K false) (tC .non) tb) δ (.bool (decide (none ∈ os))) := ed_op ed_non hb fun G H x y Q s hx hy k => by
  cases hx
  cases hy with
  | lst f q =>
    have := dg_opts q
    subst this
    obtain ⟨h1, h2⟩ := none_opts os
    refine ⟨_, _, rfl, .inl (SqL.of (s _ _ f)), rfl, h2, k _ _ rfl ?_⟩
    rw [h1]; exact .bl _

/-! ### tests -/
theorem et_B {Rb : Bool → Prop} (h : ER e te δ (fun d => ∃ b, d = .bool b ∧ Rb b)) : ET e (tB te) δ Rb := fun σ G H Q S k => h σ G H _ S fun d v G' H' ⟨b, r, rb⟩ g q => by
  subst r; cases q
  exact ⟨b, rfl, k b G' H' rb g⟩
theorem et_T {Rb : Bool → Prop} (h : ER e te δ (fun d => ∃ b, d = .bool b ∧ Rb b)) : ET e (tTest te) δ Rb := et_B h
theorem eb_B {b : Bool} (h : ED e te δ (.bool b)) : EB e (tB te) δ b := et_B (h.mono fun _ q => ⟨b, q, rfl⟩)
theorem eb_T {b : Bool} (h : ED e te δ (.bool b)) : EB e (tTest te) δ b := eb_B h
theorem et_and {Ra Rb R : Bool → Prop} (h1 : ET e t δ Ra) (h2 : Ra true → ET e u δ Rb) (f : Ra false → R false) (g : ∀ b, Ra true → Rb b → R b) : ET e (tAnd t u) δ R := fun σ G H Q S k => h1 σ G H _ S fun b G1 H1 r g1 => by
  cases b with
  | true =>
    show u σ H1 Q
    exact h2 r σ G1 H1 Q g1.s fun c G2 H2 r2 g2 => k c G2 H2 (g c r r2) (g1.trans g2)
  | false => exact k false G1 H1 (f r) g1
theorem et_or {Ra Rb R : Bool → Prop} (h1 : ET e t δ Ra) (h2 : Ra false → ET e u δ Rb) (f : Ra true → R true) (g : ∀ b, Ra false → Rb b → R b) : ET e (tOr t u) δ R := fun σ G H Q S k => h1 σ G H _ S fun b G1 H1 r g1 => by
  cases b with
  | false =>
    show u σ H1 Q
    exact h2 r σ G1 H1 Q g1.s fun c G2 H2 r2 g2 => k c G2 H2 (g c r r2) (g1.trans g2)
  | true => exact k true G1 H1 (f r) g1
theorem eb_and {a b : Bool} (h1 : EB e t δ a) (h2 : a = true → EB e u δ b) : EB e (tAnd t u) δ (a && b) := et_and h1 (fun q => h2 q.symm) (fun q => by rw [← q]; rfl) fun c q r => by rw [← q, r]; rfl
theorem eb_or {a b : Bool} (h1 : EB e t δ a) (h2 : a = false → EB e u δ b) : EB e (tOr t u) δ (a || b) := et_or h1 (fun q => h2 q.symm) (fun q => by rw [← q]; rfl) fun c q r => by rw [← q, r]; rfl
theorem et_not {Ra R : Bool → Prop} (h : ET e t δ Ra) (i : ∀ b, Ra b → R (!b)) : ET e (tNot t) δ R := fun σ G H Q S k => h σ G H _ S fun b G1 H1 r g1 => k (!b) G1 H1 (i b r) g1
theorem eb_not {a : Bool} (h : EB e t δ a) : EB e (tNot t) δ (!a) := et_not h fun b q => by rw [q]
theorem ed_andV {a b : Bool} (h1 : ED e ta δ (.bool a)) (h2 : a = true → ED e tb δ (.bool b)) : ED e (tAndV ta tb) δ (.bool (a && b)) := fun σ G H Q S k => h1 σ G H _ S fun d v G1 H1 r g1 q => by
  subst r; cases q
  refine ⟨a, rfl, ?_⟩
  cases a with
  | true =>
    show tb σ H1 Q
    exact h2 rfl σ G1 H1 Q g1.s fun d v G2 H2 r2 g2 q2 => k d v G2 H2 (by rw [r2]; rfl) (g1.trans g2) q2
  | false => exact k _ _ G1 H1 rfl g1 (.bl false)
theorem ed_orV {a b : Bool} (h1 : ED e ta δ (.bool a)) (h2 : a = false → ED e tb δ (.bool b)) : ED e (tOrV ta tb) δ (.bool (a || b)) := fun σ G H Q S k => h1 σ G H _ S fun d v G1 H1 r g1 q => by
  subst r; cases q
  refine ⟨a, rfl, ?_⟩
  cases a with
  | false =>
    show tb σ H1 Q
    exact h2 rfl σ G1 H1 Q g1.s fun d v G2 H2 r2 g2 q2 => k d v G2 H2 (by rw [r2]; rfl) (g1.trans g2) q2
  | true => exact k _ _ G1 H1 rfl g1 (.bl true)
theorem ed_notV {a : Bool} (h1 : ED e ta δ (.bool a)) : ED e (tNotV ta) δ (.bool (!a)) := fun σ G H Q S k => h1 σ G H _ S fun d v G1 H1 r g1 q => by
  subst r; cases q
  exact ⟨a, rfl, k _ _ G1 H1 rfl g1 (.bl _)⟩
theorem er_if {Rt : Bool → Prop} (h : ET e t δ Rt) (h1 : Rt true → ER e ta δ R) (h2 : Rt false → ER e tb δ R) : ER e (tIf t ta tb) δ R := fun σ G H Q S k => h σ G H _ S fun b G1 H1 r g1 => by
  cases b with
  | true =>
    show ta σ H1 Q
    exact h1 r σ G1 H1 Q g1.s fun d v G2 H2 r2 g2 q2 => k d v G2 H2 r2 (g1.trans g2) q2
  | false =>
    show tb σ H1 Q
    exact h2 r σ G1 H1 Q g1.s fun d v G2 H2 r2 g2 q2 => k d v G2 H2 r2 (g1.trans g2) q2
theorem ed_if {b : Bool} (h : EB e t δ b) (h1 : b = true → ER e ta δ R) (h2 : b = false → ER e tb δ R) : ER e (tIf t ta tb) δ R := er_if h (fun q => h1 q.symm) (fun q => h2 q.symm)

/-! ### arguments, displays, calls -/
theorem ea_nil : EAD e tNil δ [] := fun σ G H Q S k => k [] [] G H rfl (Go.refl S) .nil
theorem ea_cons {tr : TA} {Rs Rc : List PyData → Prop} (h : ER e ta δ Ra) (hr : EA e tr δ Rs) (i : ∀ d ds, Ra d → Rs ds → Rc (d :: ds)) : EA e (tCons ta tr) δ Rc := fun σ G H Q S k =>
  h σ G H _ S fun d v G1 H1 r1 g1 q1 => hr σ G1 H1 _ g1.s fun ds vs G2 H2 r2 g2 q2 => k _ _ G2 H2 (i d ds r1 r2) (g1.trans g2) (.cons (q1.up g2.g) q2)
theorem ea_c {tr : TA} {ds : List PyData} (h : ED e ta δ d) (hr : EAD e tr δ ds) : EAD e (tCons ta tr) δ (d :: ds) := ea_cons h hr fun _ _ h1 h2 => by rw [h1, h2]
theorem lenOk {n : Nat} (h : n ≤ 1000000) : n ≤ sizeLine := Nat.le_trans h (by decide)
theorem lenLt {n : Nat} (h : n < 1000000) : n < sizeLine := Nat.lt_of_lt_of_le h (by decide)
theorem er_tup {tr : TA} {Rs : List PyData → Prop} (h : EA e tr δ Rs) (hl : ∀ ds, Rs ds → ds.length ≤ 1000000) (i : ∀ ds, Rs ds → R (.tuple ds)) : ER e (tTup tr) δ R := fun σ G H Q S k => h σ G H _ S fun ds vs G1 H1 r g q =>
  ⟨lenOk (by rw [q.len]; exact hl ds r), fun p hp => by
    have x := Ext.alloc (o := .tup vs) g.s.sub hp
    exact k _ _ _ _ (i ds r) (g.trans (g.s.go x)) (.tup upd_same (q.up x.g))⟩
theorem ed_tup {tr : TA} {ds : List PyData} (h : EAD e tr δ ds) (hl : ds.length ≤ 1000000) : ED e (tTup tr) δ (.tuple ds) := er_tup h (fun _ q => by rw [q]; exact hl) fun _ q => by rw [q]
theorem Go.back {σ : L2.St} {G H G1 H1 : Hp} {p : Addr} (g : Go e δ σ G H G1 H1) (hp : H1 p = none) : H p = none := by
  cases z : H p with
  | none => rfl
  | some o =>
    exfalso
    by_cases nb : ∀ (i : Nat) (b : Addr), δ[i]? = some (.b b) → σ[i]? ≠ some (some (.ref p))
    · rw [g.k p o z nb] at hp; cases hp
    · exact nb fun i b hi hs => g.s.no hp i (.b b) hi hs
theorem el_lst {tr : TA} {Rs : List PyData → Prop} (h : EA e tr δ Rs) (hl : ∀ ds, Rs ds → ds.length ≤ 1000000) : EL e (tLst tr) δ Rs := fun σ G H Q S k => h σ G H _ S fun ds vs G1 H1 r g q =>
  ⟨lenOk (by rw [q.len]; exact hl ds r), fun p hp => by
    have x := Ext.allocH (o := .lst vs) g.s.sub hp
    have hn : H p = none := by
      cases z : H p with
      | none => rfl
      | some o =>
        exfalso
        by_cases nb : ∀ (i : Nat) (b : Addr), δ[i]? = some (.b b) → σ[i]? ≠ some (some (.ref p))
        · rw [g.k p o z nb] at hp; cases hp
        · refine nb fun i b hi hs => g.s.no hp i (.b b) hi hs
    exact k ds p vs _ _ r (g.trans (g.s.go x)) (Nob.new g.s hp) hn q⟩
theorem er_call {α : Type} {C : Addr} {enc : α → List PyData} {pre : α → Prop} {bad : α → Option Nat} {Rr : α → PyData → Prop} {E : XK} {tr : TA} {Rs : List PyData → Prop} (h : EA e tr δ Rs) (hp : ∀ ds, Rs ds → ∃ p, ds = enc p ∧ pre p ∧ bad p = none ∧ ∀ d, Rr p d → R d) :
    ER e (tCall (SP C enc pre bad Rr) [] E tr) δ R := fun σ G H Q S k => h σ G H _ S fun ds vs G1 H1 r g q => by
  obtain ⟨p, h1, h2, h3, h4⟩ := hp ds r
  subst h1
  refine ⟨G1, p, g.s.sub, by rw [List.append_nil]; exact q, h2, fun _ v d G' H' rd x dg => k d v G' H' (h4 d rd) (g.trans (g.s.go x)) dg, fun k w hk => ?_⟩
  rw [h3] at hk; cases hk
theorem ed_call {α : Type} {C : Addr} {enc : α → List PyData} {pre : α → Prop} {bad : α → Option Nat} {Rr : α → PyData → Prop} {E : XK} {tr : TA} (p : α) (h : EAD e tr δ (enc p)) (hp : pre p) (hb : bad p = none) (hr : ∀ d, Rr p d → R d) :
    ER e (tCall (SP C enc pre bad Rr) [] E tr) δ R := er_call h fun _ q => ⟨p, q, hp, hb, hr⟩
/-- arguments with their very values, where they are names -/
def EAx (e : Ent) (ta : TA) (δ : Fm) (ds : List PyData) (k : Nat) (w : V) : Prop := ∀ σ G H (Q : List V → Hp → Prop), Sd e δ G H σ → (∀ vs G' H', Go e δ σ G H G' H' → DgAll G' vs ds → vs[k]? = some w → Q vs H') → ta σ H Q
theorem eax_here {tr : TA} {ds : List PyData} {i : Nat} {w : V} (h : δ[i]? = some (.p w d)) (hr : EAD e tr δ ds) : EAx e (tCons (tVar i) tr) δ (d :: ds) 0 w := fun σ G H Q S k => by
  obtain ⟨h1, h2⟩ := S.cells i _ h
  exact ⟨w, h1, hr σ G H _ S fun ds' vs G1 H1 r g q => k _ G1 H1 g (by subst r; exact .cons (h2.up g.g) q) rfl⟩
theorem eax_next {tr : TA} {ds : List PyData} {n : Nat} {w : V} (h : ED e ta δ d) (hr : EAx e tr δ ds n w) : EAx e (tCons ta tr) δ (d :: ds) (n + 1) w := fun σ G H Q S k =>
  h σ G H _ S fun d' v G1 H1 r g q => hr σ G1 H1 _ g.s fun vs G2 H2 g2 q2 hk => k _ G2 H2 (g.trans g2) (by subst r; exact .cons (q.up g2.g) q2) (by simpa using hk)
/-- a call that raises -/
def XR (e : Ent) (te : TE) (δ : Fm) (C : Addr) (E : XK) (w : V) : Prop := ∀ σ G H (Q : VK), Sd e δ G H σ → (∀ dx G' H', Go e δ σ G H G' H' → H dx = none → H' dx = some (.xd [("at", w)]) → E (.ref C) (some dx) H') → te σ H Q
theorem xr_call {α : Type} {C : Addr} {enc : α → List PyData} {pre : α → Prop} {bad : α → Option Nat} {Rr : α → PyData → Prop} {E : XK} {tr : TA} {k : Nat} {w : V} (p : α) (h : EAx e tr δ (enc p) k w) (hp : pre p) (hb : bad p = some k) : XR e (tCall (SP C enc pre bad Rr) [] E tr) δ C E w := fun σ G H Q S q =>
  h σ G H _ S fun vs G1 H1 g dv hk => by
    refine ⟨G1, p, g.s.sub, by rw [List.append_nil]; exact dv, hp, fun hn => ?_, fun k' w' h1 h2 dx H' x hn hx => ?_⟩
    · rw [hb] at hn; cases hn
    · rw [hb] at h1; cases h1
      rw [List.append_nil] at h2
      rw [hk] at h2; cases h2
      exact q dx G1 H' (g.trans (g.s.go x)) (g.back hn) hx
/-- calls of built-ins upon values -/
theorem er_cb {r : List V → Hp → VK → Prop} {tr : TA} {Rs : List PyData → Prop} (h : EA e tr δ Rs) (hr : ∀ ds, Rs ds → ∀ G H vs (Q : VK), Ex G H → DgAll G vs ds → (∀ d v, R d → Dg G v d → Q v H) → r vs H Q) : ER e (tCB r tr) δ R := fun σ G H Q S k => h σ G H _ S fun ds vs G1 H1 r1 g q =>
  hr ds r1 G1 H1 vs Q g.s.sub q fun d v rd dg => k d v G1 H1 rd g dg
/-- .. that give a new list -/
theorem el_cb {r : List V → Hp → VK → Prop} {tr : TA} {Rs Rl : List PyData → Prop} (h : EA e tr δ Rs) (hr : ∀ ds, Rs ds → ∀ G H vs (Q : VK), Ex G H → DgAll G vs ds → (∀ xs ys p, Rl xs → DgAll G ys xs → H p = none → Q (.ref p) (upd H p (.lst ys))) → r vs H Q) : EL e (tCB r tr) δ Rl := fun σ G H Q S k => h σ G H _ S fun ds vs G1 H1 r1 g q =>
  hr ds r1 G1 H1 vs Q g.s.sub q fun xs ys p rx hx hp => k xs p ys G1 _ rx (g.trans (g.s.go (Ext.allocH g.s.sub hp))) (Nob.new g.s hp) (g.back hp) hx
theorem er_cbT {r : List V → Hp → VK → Prop} {tr : TA} {Rs : List PyData → Prop} (h : EA e tr δ Rs) (hr : ∀ ds, Rs ds → ∀ G H vs (Q : VK), Ex G H → DgAll G vs ds → (∀ xs ys p, R (.tuple xs) → DgAll G ys xs → H p = none → Q (.ref p) (upd H p (.tup ys))) → (∀ d v, R d → Dg G v d → Q v H) → r vs H Q) : ER e (tCB r tr) δ R := fun σ G H Q S k => h σ G H _ S fun ds vs G1 H1 r1 g q =>
  hr ds r1 G1 H1 vs Q g.s.sub q (fun xs ys p rx hx hp => by
    have x := Ext.alloc (o := .tup ys) g.s.sub hp
    exact k _ _ _ _ rx (g.trans (g.s.go x)) (.tup upd_same (hx.up x.g))) fun d v rd dg => k d v G1 H1 rd g dg
theorem ed_len {r : List V → Hp → VK → Prop} (hr : r = fun xs H Q => ∃ p ys, xs = [.ref p] ∧ (SqL K H p ys ∨ SqT K H p ys) ∧ Q (.int ys.length) H) {ds : List PyData} (h : ED e ta δ d) (hs : SeqD d ds) : ED e (tCB r (tCons ta tNil)) δ (.int ds.length) :=
  er_cb (ea_c h ea_nil) fun _ q G H vs Q s hv k => by
    subst q hr
    cases hv with
    | cons h1 h2 =>
      cases h2
      cases hs with
      | l => cases h1 with | lst f q => exact ⟨_, _, rfl, .inl (SqL.of (s _ _ f)), k _ _ rfl (by rw [q.len]; exact .int _)⟩
      | t => cases h1 with | tup f q => exact ⟨_, _, rfl, .inr (SqT.of (s _ _ f)), k _ _ rfl (by rw [q.len]; exact .int _)⟩
theorem ed_all {bs : List Bool} (h : ED e ta δ (.list (bs.map PyData.bool))) : ED e (tCB (rAll K) (tCons ta tNil)) δ (.bool (bs.all id)) :=
  er_cb (ea_c h ea_nil) fun _ q G H vs Q s hv k => by
    subst q
    cases hv with
    | cons h1 h2 =>
      cases h2
      cases h1 with
      | lst f q =>
        have := q.bls
        subst this
        exact ⟨_, bs, rfl, SqL.of (s _ _ f), k _ _ rfl (.bl _)⟩
theorem ed_sum {ns : List Int} (h : ED e ta δ (.list (ns.map PyData.int))) : ED e (tCB (rSum K) (tCons ta tNil)) δ (.int ns.sum) :=
  er_cb (ea_c h ea_nil) fun _ q G H vs Q s hv k => by
    subst q
    cases hv with
    | cons h1 h2 =>
      cases h2
      cases h1 with
      | lst f q =>
        have := q.ints
        subst this
        exact ⟨_, ns, rfl, SqL.of (s _ _ f), k _ _ rfl (.int _)⟩
theorem er_min {ns : List Int} (h : ED e ta δ (.list (ns.map PyData.int))) (hn : 0 < ns.length) : ER e (tCB (rMin K) (tCons ta tNil)) δ (fun d => ∃ m, d = .int m ∧ m ∈ ns ∧ ∀ y, y ∈ ns → m ≤ y) :=
  er_cb (ea_c h ea_nil) fun _ q G H vs Q s hv k => by
    subst q
    cases hv with
    | cons h1 h2 =>
      cases h2
      cases h1 with
      | lst f q =>
        have := q.ints
        subst this
        exact ⟨_, ns, rfl, SqL.of (s _ _ f), hn, fun m h1 h2 => k _ _ ⟨m, rfl, h1, h2⟩ (.int m)⟩
theorem el_listOf {r : List V → Hp → VK → Prop} (hr : r = fun xs H Q => ∃ p ys, xs = [.ref p] ∧ (SqL K H p ys ∨ SqT K H p ys) ∧ ∀ l, H l = none → Q (.ref l) (upd H l (.lst ys))) {ds : List PyData} (h : ED e ta δ d) (hs : SeqD d ds) : ELD e (tCB r (tCons ta tNil)) δ ds :=
  el_cb (ea_c h ea_nil) fun _ q G H vs Q s hv k => by
    subst q hr
    cases hv with
    | cons h1 h2 =>
      cases h2
      cases hs with
      | l => cases h1 with | lst f q => exact ⟨_, _, rfl, .inl (SqL.of (s _ _ f)), fun l hl => k _ _ l rfl q hl⟩
      | t => cases h1 with | tup f q => exact ⟨_, _, rfl, .inr (SqT.of (s _ _ f)), fun l hl => k _ _ l rfl q hl⟩
theorem ed_tupleOf {r : List V → Hp → VK → Prop} (hr : r = fun xs H Q => ∃ p ys, xs = [.ref p] ∧ ((SqL K H p ys ∧ ∀ l, H l = none → Q (.ref l) (upd H l (.tup ys))) ∨ (SqT K H p ys ∧ Q (.ref p) H))) {ds : List PyData} (h : ED e ta δ d) (hs : SeqD d ds) : ED e (tCB r (tCons ta tNil)) δ (.tuple ds) :=
  er_cbT (ea_c h ea_nil) fun _ q G H vs Q s hv k k2 => by
    subst q hr
    cases hv with
    | cons h1 h2 =>
      cases h2
      cases hs with
      | l => cases h1 with | lst f q => exact ⟨_, _, rfl, .inl ⟨SqL.of (s _ _ f), fun l hl => k _ _ l rfl q hl⟩⟩
      | t => cases h1 with | tup f q => exact ⟨_, _, rfl, .inr ⟨SqT.of (s _ _ f), k2 _ _ rfl (.tup f q)⟩⟩
theorem el_sorted {ns : List Int} (h : ED e ta δ (.list (ns.map PyData.int))) : EL e (tCB (rSortedI K) (tCons ta tNil)) δ (fun xs => ∃ ms : List Int, xs = ms.map PyData.int ∧ ms.Perm ns ∧ ms.Pairwise (· ≤ ·)) :=
  el_cb (ea_c h ea_nil) fun _ q G H vs Q s hv k => by
    subst q
    cases hv with
    | cons h1 h2 =>
      cases h2
      cases h1 with
      | lst f q =>
        have := q.ints
        subst this
        exact ⟨_, ns, rfl, SqL.of (s _ _ f), fun ms p h1 h2 hp => k _ _ p ⟨ms, rfl, h1, h2⟩ (DgAll.ofInts ms) hp⟩
end
end DL
/-! walks, comprehensions, statements, loops, over frames -/
namespace DL
open PySem L2
/-! ### what is walked -/
structure IterD (J : It) (items : List PyData) (G0 : Hp) : Prop where
  stop : ∀ H, Ex G0 H → J.stop items.length H
  go : ∀ (i : Nat) (d : PyData) (G H : Hp), Ex G0 G → Ex G H → items[i]? = some d → J.go i H ∧ ∀ v H', J.yld i H v H' → ∃ G', Ext G H G' H' ∧ Dg G' v d
def IT (e : Ent) (wi : TI) (δ : Fm) (Ri : List PyData → Prop) : Prop := ∀ σ G H (R : It → Hp → Prop), Sd e δ G H σ → (∀ items J G' H', Ri items → Go e δ σ G H G' H' → IterD J items G' → R J H') → wi σ H R
abbrev ITD (e : Ent) (wi : TI) (δ : Fm) (items : List PyData) : Prop := IT e wi δ (fun x => x = items)
/-- a list or a tuple walked -/
def iSeq (K : PySem.W.Frag) (tl : TE) : TI := fun σ H R => tl σ H fun x H1 => ∃ a, x = .ref a ∧ (((∃ xs, SqL K H1 a xs) ∧ R (Itl K a) H1) ∨ ((∃ xs, SqT K H1 a xs) ∧ R (Itt K a) H1))
theorem pi_seq {X : Cx} {tg l : Expr} {tl : TE} (hl : PE X l tl) : PI X tg l (iSeq X.K tl) := by
  refine ⟨fun pins s σ H R I h => thn (hl.run pins s σ H _ I h) fun v s1 hv => ?_⟩
  obtain ⟨x, H1, I1, r1, a, ex, hq⟩ := hv
  subst ex
  cases r1
  have fr : ∀ b ∈ [s1.heap.objs.size], FpOk X pins H1 b := fun b hb => by
    obtain rfl : b = s1.heap.objs.size := by simpa using hb
    exact I1.fpOk (Nat.le_refl s1.heap.objs.size) (I1.hok.fresh (Nat.le_refl _))
  rcases hq with ⟨⟨xs, hq⟩, q⟩ | ⟨⟨xs, hq⟩, q⟩
  · obtain ⟨its, _, p, _⟩ := I1.list hq
    exact wpAny_pyIter_list p.isList ⟨_, _, _, _, H1, rfl, I1.kept (t' := s1.toks) (fun _ _ z => Heap.get?_push_of_some _ z), turn_list a _, ⟨_, Heap.get?_push_size _ rfl, rfl, rfl⟩, fr, q⟩
  · obtain ⟨its, _, p, _⟩ := I1.tuple hq
    exact wpAny_pyIter_tuple (show s1.heap.IsTuple a its.toArray from p) ⟨_, _, _, _, H1, rfl, I1.kept (t' := s1.toks) (fun _ _ z => Heap.get?_push_of_some _ z), turn_tuple a _, ⟨_, Heap.get?_push_size _ rfl, rfl, rfl⟩, fr, q⟩
section
variable {e : Ent} {δ : Fm} {te ta tb : TE} {tt t u : TT} {R Ra Rb : PyData → Prop} {d da db : PyData} {K : PySem.W.Frag}
theorem iter_l {G : Hp} {a : Addr} {xs : List V} {ds : List PyData} (h : G a = some (.lst xs)) (q : DgAll G xs ds) : IterD (Itl K a) ds G where
  stop := fun H s => ⟨xs, SqL.of (s _ _ h), by rw [q.len]; exact Nat.le_refl _⟩
  go := fun i d G1 H g s hd => by
    obtain ⟨v, hv, dv⟩ := q.get hd
    refine ⟨⟨xs, v, SqL.of (s _ _ (g _ _ h)), hv⟩, fun w H' ⟨e1, e2⟩ => ?_⟩
    subst e1
    have := e2 xs (SqL.of (s _ _ (g _ _ h)))
    rw [hv] at this; cases this
    exact ⟨G1, Ext.refl s, dv.up g⟩
theorem iter_t {G : Hp} {a : Addr} {xs : List V} {ds : List PyData} (h : G a = some (.tup xs)) (q : DgAll G xs ds) : IterD (Itt K a) ds G where
  stop := fun H s => ⟨xs, SqT.of (s _ _ h), by rw [q.len]; exact Nat.le_refl _⟩
  go := fun i d G1 H g s hd => by
    obtain ⟨v, hv, dv⟩ := q.get hd
    refine ⟨⟨xs, v, SqT.of (s _ _ (g _ _ h)), hv⟩, fun w H' ⟨e1, e2⟩ => ?_⟩
    subst e1
    have := e2 xs (SqT.of (s _ _ (g _ _ h)))
    rw [hv] at this; cases this
    exact ⟨G1, Ext.refl s, dv.up g⟩
theorem it_seqR {Ri : List PyData → Prop} (h : ER e te δ (fun d => ∃ ds, SeqD d ds ∧ Ri ds)) : IT e (iSeq K te) δ Ri := fun σ G H R S k => h σ G H _ S fun d v G1 H1 ⟨ds, hs, r⟩ g q => by
  cases hs with
  | l => cases q with | lst f q => exact ⟨_, rfl, .inl ⟨⟨_, SqL.of (g.s.sub _ _ f)⟩, k ds _ G1 H1 r g (iter_l f q)⟩⟩
  | t => cases q with | tup f q => exact ⟨_, rfl, .inr ⟨⟨_, SqT.of (g.s.sub _ _ f)⟩, k ds _ G1 H1 r g (iter_t f q)⟩⟩
theorem it_seq {ds : List PyData} (h : ED e te δ d) (hs : SeqD d ds) : ITD e (iSeq K te) δ ds := it_seqR (h.mono fun _ q => ⟨ds, by rw [q]; exact hs, rfl⟩)
def natsD (n : Nat) : List PyData := (List.range n).map fun i : Nat => PyData.int (i : Int)
theorem natsD_at {n i : Nat} {d : PyData} (h : (natsD n)[i]? = some d) : i < n ∧ d = .int (i : Int) := by
  unfold natsD at h
  rw [List.getElem?_map] at h
  by_cases q : i < n
  · rw [List.getElem?_range q] at h
    exact ⟨q, (Option.some.inj h).symm⟩
  · rw [List.getElem?_eq_none (by simpa using q)] at h; cases h
theorem natsD_len (n : Nat) : (natsD n).length = n := by simp [natsD]
theorem it_range1 {ta : TA} {n : Nat} (h : EAD e ta δ [.int (n : Int)]) (hn : n ≤ 1000000) : ITD e (iRng1 ta) δ (natsD n) := fun σ G H R S k => h σ G H _ S fun ds vs G1 H1 r g q => by
  subst r
  cases q with
  | cons q1 q2 =>
    cases q1; cases q2
    refine ⟨n, rfl, by omega, by omega, k _ _ G1 H1 rfl g ⟨fun H _ => ?_, fun i d G2 H2 g2 s2 hd => ?_⟩⟩
    · show (n : Int).toNat ≤ _
      rw [natsD_len]; omega
    · obtain ⟨h1, h2⟩ := natsD_at hd
      subst h2
      refine ⟨show i < (n : Int).toNat by omega, fun v H' ⟨e1, e2⟩ => ?_⟩
      subst e1 e2
      refine ⟨G2, Ext.refl s2, ?_⟩
      have : (0 : Int) + (i : Int) = (i : Int) := Int.zero_add _
      rw [this]; exact .int _
theorem it_mono {wi : TI} {Ra Rb : List PyData → Prop} (h : IT e wi δ Ra) (i : ∀ x, Ra x → Rb x) : IT e wi δ Rb := fun σ G H R S k => h σ G H R S fun items J G' H' r => k items J G' H' (i items r)
theorem it_is {wi : TI} {xs ys : List PyData} (h : ITD e wi δ xs) (i : xs = ys) : ITD e wi δ ys := i ▸ h

/-! ### targets -/
def GA (e : Ent) (g : TG) (δ : Fm) (d : PyData) (δ' : Fm) (sl : List Nat) : Prop := ∀ σ G H v (Q : L2.St → Hp → Prop), Sd e δ G H σ → Dg G v d →
  (∀ σ', Sd e δ' G H σ' → (∀ vs : List Nat, (∀ j ∈ sl, j ∈ vs) → wipe σ' vs = wipe σ vs) → (∀ (j : Nat) c a, δ'[j]? = some c → Own σ'[j]? a c → δ[j]? = some c ∧ Own σ[j]? a c) → Q σ' H) → g v σ H Q
def GAs (e : Ent) (g : TGs) (δ : Fm) (ds : List PyData) (δ' : Fm) (sl : List Nat) : Prop := ∀ σ G H vs (Q : L2.St → Hp → Prop), Sd e δ G H σ → DgAll G vs ds →
  (∀ σ', Sd e δ' G H σ' → (∀ ws : List Nat, (∀ j ∈ sl, j ∈ ws) → wipe σ' ws = wipe σ ws) → (∀ (j : Nat) c a, δ'[j]? = some c → Own σ'[j]? a c → δ[j]? = some c ∧ Own σ[j]? a c) → Q σ' H) → g vs σ H Q
theorem wipe_idem (σ : L2.St) : ∀ vs : List Nat, wipe (wipe σ vs) vs = wipe σ vs := fun vs => by
  refine List.ext_getElem? (fun j => ?_)
  by_cases h : j ∈ vs
  · have key : ∀ (τ : L2.St) (vs : List Nat), j ∈ vs → j < τ.length → (wipe τ vs)[j]? = some none := by
      intro τ vs
      induction vs with
      | nil => intro h; simp at h
      | cons v vs ih =>
        intro h hl
        show ((wipe τ vs).set v none)[j]? = _
        by_cases z : v = j
        · subst z; exact List.getElem?_set_self (by rw [wipe_length]; exact hl)
        · rw [List.getElem?_set_ne z]
          exact ih (by rcases List.mem_cons.mp h with q | q; exact absurd q.symm z; exact q) hl
    by_cases hl : j < σ.length
    · rw [key _ vs h (by rw [wipe_length]; exact hl), key _ vs h hl]
    · rw [List.getElem?_eq_none (by rw [wipe_length, wipe_length]; omega), List.getElem?_eq_none (by rw [wipe_length]; omega)]
  · have key : ∀ (τ : L2.St) (vs : List Nat), j ∉ vs → (wipe τ vs)[j]? = τ[j]? := by
      intro τ vs
      induction vs with
      | nil => intro _; rfl
      | cons v vs ih =>
        intro h
        have h2 : j ≠ v ∧ j ∉ vs := by simpa using h
        show ((wipe τ vs).set v none)[j]? = _
        rw [List.getElem?_set_ne (Ne.symm h2.1)]
        exact ih h2.2
    rw [key _ vs h]
theorem wipe_set {σ : L2.St} {i : Nat} {x : Option V} : ∀ {vs : List Nat}, wipe (σ.set i x) vs = if i ∈ vs then wipe σ vs else (wipe σ vs).set i x
  | [] => by simp [wipe]
  | v :: vs => by
    have ih := wipe_set (σ := σ) (i := i) (x := x) (vs := vs)
    show (wipe (σ.set i x) vs).set v none = if i ∈ v :: vs then (wipe σ vs).set v none else ((wipe σ vs).set v none).set i x
    rw [ih]
    by_cases h1 : i ∈ vs
    · rw [if_pos h1, if_pos (List.mem_cons_of_mem _ h1)]
    · rw [if_neg h1]
      by_cases h2 : i = v
      · subst h2
        rw [if_pos List.mem_cons_self, List.set_set]
      · rw [if_neg (by simp [h1, h2]), List.set_comm _ _ h2]
theorem ga_name {i : Nat} : GA e (gName i) δ d (δ.set i (.d d)) [i] := fun σ G H v Q S q k => by
  refine k _ (S.setD q) (fun vs h => by rw [wipe_set, if_pos (h i (by simp))]) fun j c a hc hw => ?_
  by_cases z : i = j
  · subst z
    have hl : i < δ.length := by simpa using (List.getElem?_eq_some_iff.mp hc).1
    rw [List.getElem?_set_self hl] at hc
    cases hc
    exact hw.elim
  · rw [List.getElem?_set_ne z] at hc hw
    exact ⟨hc, hw⟩
theorem gas_nil : GAs e gNil δ [] δ [] := fun σ G H vs Q S q k => by
  cases q
  exact ⟨rfl, k σ S (fun _ _ => rfl) fun _ _ _ hc hw => ⟨hc, hw⟩⟩
theorem gas_cons {g : TG} {gs : TGs} {ds : List PyData} {δ1 δ2 : Fm} {s1 s2 : List Nat} (h1 : GA e g δ d δ1 s1) (h2 : GAs e gs δ1 ds δ2 s2) : GAs e (gCons g gs) δ (d :: ds) δ2 (s1 ++ s2) := fun σ G H vs Q S q k => by
  cases q with
  | cons q1 q2 =>
    refine ⟨_, _, rfl, h1 σ G H _ _ S q1 fun σ1 S1 w1 o1 => h2 σ1 G H _ _ S1 q2 fun σ2 S2 w2 o2 => k σ2 S2 (fun ws h => ?_) fun j c a hc hw => ?_⟩
    · rw [w2 ws fun j hj => h j (List.mem_append_right _ hj), w1 ws fun j hj => h j (List.mem_append_left _ hj)]
    · obtain ⟨a1, a2⟩ := o2 j c a hc hw
      exact o1 j c a a1 a2
theorem ga_tup {gs : TGs} {n : Nat} {ds : List PyData} {δ' : Fm} {sl : List Nat} (h : GAs e gs δ ds δ' sl) (hn : ds.length = n) : GA e (gTup K n gs) δ (.tuple ds) δ' sl := fun σ G H v Q S q k => by
  cases q with
  | tup f q => exact ⟨_, _, rfl, SqT.of (S.sub _ _ f), by rw [q.len, hn], h σ G H _ Q S q k⟩
theorem ga_two {i j : Nat} {d1 d2 : PyData} : GA e (gTup K 2 (gCons (gName i) (gCons (gName j) gNil))) δ (.tuple [d1, d2]) ((δ.set i (.d d1)).set j (.d d2)) [i, j] := ga_tup (gas_cons ga_name (gas_cons ga_name gas_nil)) rfl
theorem ga_three {i j l : Nat} {d1 d2 d3 : PyData} : GA e (gTup K 3 (gCons (gName i) (gCons (gName j) (gCons (gName l) gNil)))) δ (.tuple [d1, d2, d3]) (((δ.set i (.d d1)).set j (.d d2)).set l (.d d3)) [i, j, l] := ga_tup (gas_cons ga_name (gas_cons ga_name (gas_cons ga_name gas_nil))) rfl

/-! ### blocks of comprehensions -/
def wipeC (δ : Fm) : List Nat → Fm
  | [] => δ
  | v :: vs => (wipeC δ vs).set v .no
theorem Sd.wipe {σ : L2.St} {G H : Hp} (S : Sd e δ G H σ) : ∀ vs : List Nat, Sd e (wipeC δ vs) G H (L2.wipe σ vs)
  | [] => S
  | v :: vs => by
    have ih := Sd.wipe S vs
    show Sd e ((wipeC δ vs).set v .no) G H ((L2.wipe σ vs).set v none)
    have at_ : ∀ {j : Nat} {c : Cell}, ((wipeC δ vs).set v .no)[j]? = some c → c = .no ∨ ((wipeC δ vs)[j]? = some c ∧ ((L2.wipe σ vs).set v none)[j]? = (L2.wipe σ vs)[j]?) := fun {j c} h => by
      by_cases z : v = j
      · subst z
        have hl : v < (wipeC δ vs).length := by simpa using (List.getElem?_eq_some_iff.mp h).1
        rw [List.getElem?_set_self hl] at h
        exact .inl (Option.some.inj h).symm
      · rw [List.getElem?_set_ne z] at h
        exact .inr ⟨h, List.getElem?_set_ne z⟩
    refine ⟨ih.sub, ih.grow, ih.old, ih.new, ih.bs, by simp [ih.len], fun j c h => ?_, fun j c a h w => ?_, fun j k c1 c2 a h1 h2 w1 w2 => ?_⟩
    · rcases at_ h with z | ⟨z1, z2⟩
      · subst z; trivial
      · rw [z2]; exact ih.cells j c z1
    · rcases at_ h with z | ⟨z1, z2⟩
      · subst z; exact w.elim
      · rw [z2] at w; exact ih.own j c a z1 w
    · rcases at_ h1 with z | ⟨z1, z2⟩
      · subst z; exact w1.elim
      · rcases at_ h2 with y | ⟨y1, y2⟩
        · subst y; exact w2.elim
        · rw [z2] at w1; rw [y2] at w2; exact ih.apart j k c1 c2 a z1 y1 w1 w2
theorem wipeC_at {j : Nat} : ∀ {vs : List Nat} {c : Cell}, (wipeC δ vs)[j]? = some c → (j ∈ vs ∧ c = .no) ∨ (j ∉ vs ∧ δ[j]? = some c)
  | [], c, h => .inr ⟨by simp, h⟩
  | v :: vs, c, h => by
    have h : ((wipeC δ vs).set v .no)[j]? = some c := h
    by_cases z : v = j
    · subst z
      have hl : v < (wipeC δ vs).length := by simpa using (List.getElem?_eq_some_iff.mp h).1
      rw [List.getElem?_set_self hl] at h
      exact .inl ⟨by simp, (Option.some.inj h).symm⟩
    · rw [List.getElem?_set_ne z] at h
      rcases wipeC_at h with ⟨a, b⟩ | ⟨a, b⟩
      · exact .inl ⟨List.mem_cons_of_mem _ a, b⟩
      · exact .inr ⟨by simp only [List.mem_cons, not_or]; exact ⟨fun y => z y.symm, a⟩, b⟩
theorem wipe_at {σ : L2.St} {j : Nat} : ∀ {vs : List Nat}, j ∉ vs → (wipe σ vs)[j]? = σ[j]?
  | [], _ => rfl
  | v :: vs, h => by
    have h' : j ≠ v ∧ j ∉ vs := by simpa using h
    show ((wipe σ vs).set v none)[j]? = _
    rw [List.getElem?_set_ne (Ne.symm h'.1)]
    exact wipe_at h'.2
/-- slots that hold nothing may be wiped or not -/
theorem Sd.unwipe {σ : L2.St} {G H : Hp} {vs : List Nat} (S : Sd e δ G H (L2.wipe σ vs)) (hn : wipeC δ vs = δ) : Sd e δ G H σ := by
  have at_ : ∀ {j : Nat} {c : Cell}, δ[j]? = some c → c = .no ∨ (L2.wipe σ vs)[j]? = σ[j]? := fun {j c} h => by
    by_cases z : j ∈ vs
    · rw [← hn] at h
      rcases wipeC_at h with ⟨_, b⟩ | ⟨a, _⟩
      · exact .inl b
      · exact absurd z a
    · exact .inr (wipe_at z)
  refine ⟨S.sub, S.grow, S.old, S.new, S.bs, by rw [← S.len, wipe_length], fun j c h => ?_, fun j c a h w => ?_, fun j k c1 c2 a h1 h2 w1 w2 => ?_⟩
  · rcases at_ h with z | z
    · subst z; trivial
    · rw [← z]; exact S.cells j c h
  · rcases at_ h with z | z
    · subst z; exact w.elim
    · rw [← z] at w; exact S.own j c a h w
  · rcases at_ h1 with z | z
    · subst z; exact w1.elim
    · rcases at_ h2 with y | y
      · subst y; exact w2.elim
      · rw [← z] at w1; rw [← y] at w2; exact S.apart j k c1 c2 a h1 h2 w1 w2
/-- an object of nobody's changes -/
theorem Sd.updN {σ : L2.St} {G H : Hp} {p : Addr} {o o' : HO} (S : Sd e δ G H σ) (n : Nob e δ σ G H p o) : Sd e δ G (upd H p o') σ := by
  have ne : ∀ {a u}, G a = some u → a ≠ p := fun {a u} q z => by subst z; rw [n.gn] at q; cases q
  refine ⟨fun a u q => by rw [upd_ne (ne q)]; exact S.sub a u q, S.grow, fun a u q nb => ?_, S.new, fun a h q => ?_, S.len, fun j c h => (S.cells j c h).up Ex.rfl' fun a w u hu => ?_, S.own, S.apart⟩
  · have : a ≠ p := fun z => by subst z; rw [n.eh] at q; cases q
    rw [upd_ne this]; exact S.old a u q nb
  · by_cases z : a = p
    · subst z; rw [upd_same] at q; cases q
    · rw [upd_ne z] at q; exact S.bs a h q
  · have : a ≠ p := fun z => by subst z; exact n.no j c h w
    rw [upd_ne this]; exact hu
theorem Nob.upd {σ : L2.St} {G H : Hp} {p : Addr} {o o' : HO} (n : Nob e δ σ G H p o) : Nob e δ σ G (L2.upd H p o') p o' := ⟨upd_same, n.eh, n.gn, n.no⟩
theorem Nob.tellOther {σ : L2.St} {G G' H H' : Hp} {p : Addr} {o : HO} (n : Nob e δ σ G H p o) (h : H' p = some o) (g : G' p = none) : Nob e δ σ G' H' p o := ⟨h, n.eh, g, n.no⟩

/-- a list comprehension -/
theorem el_lc {α : Type} {xs : List α} {enc : α → PyData} {p : α → Bool} {f : α → PyData} {δ' : α → Fm} {sl vs : List Nat} {wi : TI} {g : TG} (hit : ITD e wi δ (xs.map enc)) (hsl : ∀ j ∈ sl, j ∈ vs) (h0 : wipeC δ vs = δ)
    (hg : ∀ x ∈ xs, GA e g δ (enc x) (δ' x) sl) (hw : ∀ x ∈ xs, wipeC (δ' x) vs = δ) (ht : ∀ x ∈ xs, EB e tt (δ' x) (p x)) (he : ∀ x ∈ xs, p x = true → ED e te (δ' x) (f x)) (hz : xs.length ≤ 1000000) :
    ELD e (tLc wi g tt te vs) δ ((xs.filter p).map f) := fun σ G H Q S k => hit σ G H _ S fun items J G1 H1 r g1 it => by
  subst r
  intro D hD
  let done (i : Nat) : List PyData := ((xs.take i).filter p).map f
  have nD0 : Nob e δ σ G1 (upd H1 D (.lst [])) D (.lst []) := Nob.new g1.s hD
  have gD0 : Go e δ σ G1 H1 G1 (upd H1 D (.lst [])) := g1.s.go (Ext.allocH g1.s.sub hD)
  -- the word of a turn
  let P : Nat → Hp → Prop := fun i H' => ∃ G' acc, Ex G1 G' ∧ Kp δ σ H1 H' ∧ (∀ a, G' a ≠ none → G1 a ≠ none ∨ H1 a = none) ∧ Sd e δ G' H' (L2.wipe σ vs) ∧ Nob e δ (L2.wipe σ vs) G' H' D (.lst acc) ∧ DgAll G' acc (done i)
  have ow : ∀ {j : Nat} {c : Cell} {a : Addr}, δ[j]? = some c → (Own (L2.wipe σ vs)[j]? a c ↔ Own σ[j]? a c) := fun {j c a} h => by
    by_cases z : j ∈ vs
    · rw [← h0] at h
      rcases wipeC_at h with ⟨_, b⟩ | ⟨b, _⟩
      · subst b; exact Iff.rfl
      · exact absurd z b
    · rw [wipe_at z]
  have nW : ∀ {G' H' : Hp} {acc : List V}, Nob e δ σ G' H' D (.lst acc) → Nob e δ (L2.wipe σ vs) G' H' D (.lst acc) := fun n => ⟨n.at_, n.eh, n.gn, fun j c h w => n.no j c h ((ow h).mp w)⟩
  refine ⟨fun i m H' => m = xs.length - i ∧ i ≤ xs.length ∧ P i H', ⟨xs.length, by omega, Nat.zero_le _, G1, [], gD0.g, gD0.k, gD0.n, ?_, nW nD0, .nil⟩, fun i m H' hP => ?_⟩
  · have := gD0.s.wipe vs
    rw [h0] at this; exact this
  obtain ⟨rfl, hi, G', acc, q1, q2, q3, q4, q5, q6⟩ := hP
  by_cases hlt : i < xs.length
  · have hx : xs[i]? = .some xs[i] := List.getElem?_eq_getElem hlt
    have hm : xs[i] ∈ xs := List.getElem_mem hlt
    have hd : (xs.map enc)[i]? = some (enc xs[i]) := by rw [List.getElem?_map, hx]; rfl
    obtain ⟨j1, j2⟩ := it.go i (enc xs[i]) G' H' q1 q4.sub hd
    have dn : ∀ b : Bool, p xs[i] = b → done (i + 1) = if b then done i ++ [f xs[i]] else done i := fun b hb => by
      show ((xs.take (i + 1)).filter p).map f = _
      rw [List.take_add_one, hx]
      simp only [Option.toList_some, List.filter_append, List.map_append]
      cases b <;> simp [hb, done]
    refine .inr ⟨j1, P (i + 1), fun H2 p2 => ⟨xs.length - (i + 1), by omega, rfl, hlt, p2⟩, fun v H2 y => ?_⟩
    obtain ⟨G2, x2, d2⟩ := j2 v H2 y
    have w2 := q4.go x2
    have n2 := q5.go w2
    have sD : ∀ a o, H' a = some o → H2 a = some o := x2.h
    refine hg xs[i] hm _ G2 H2 v _ w2.s d2 fun σ2 S2 ww oo => ⟨?_, ?_⟩
    · rw [ww vs hsl]
      exact wipe_idem σ vs
    · -- the test
      have nob2 : ∀ {G3 H3 : Hp} {o : HO}, Nob e δ (L2.wipe σ vs) G3 H3 D o → Nob e (δ' xs[i]) σ2 G3 H3 D o := fun n => ⟨n.at_, n.eh, n.gn, fun j c h w => by
        obtain ⟨a1, a2⟩ := oo j c D h w
        exact n.no j c a1 a2⟩
      have back : ∀ {G3 H3 : Hp}, Sd e (δ' xs[i]) G3 H3 σ2 → Sd e δ G3 H3 (L2.wipe σ vs) := fun {G3 H3} S3 => by
        have z := S3.wipe vs
        rw [hw _ hm, ww vs hsl, wipe_idem] at z
        exact z
      have kp2 : ∀ {H3 H4 : Hp}, Kp (δ' xs[i]) σ2 H3 H4 → Kp δ σ H3 H4 := fun {H3 H4} kk a o ha nb => kk a o ha fun j b hj hs => by
        obtain ⟨a1, a2⟩ := oo j (.b b) a hj hs
        exact nb j b a1 ((ow a1).mp a2)
      have kp0 : Kp δ σ H1 H2 := fun a o ha nb => x2.h a o (q2 a o ha nb)
      have n0 : ∀ a, G2 a ≠ none → G1 a ≠ none ∨ H1 a = none := fun a ha => by
        rcases x2.n a ha with z | z
        · exact q3 a z
        · right
          cases hh : H1 a with
          | none => rfl
          | some o =>
            exfalso
            by_cases nb : ∀ (i : Nat) (b : Addr), δ[i]? = some (.b b) → σ[i]? ≠ some (some (.ref a))
            · rw [q2 a o hh nb] at z; cases z
            · refine nb fun i b hi hs => ?_
              exact q4.no z i (.b b) hi ((ow hi).mpr hs)
      have ntr : ∀ {G3 H3 : Hp}, Go e (δ' xs[i]) σ2 G2 H2 G3 H3 → ∀ a, G3 a ≠ none → G1 a ≠ none ∨ H1 a = none := fun {G3 H3} g3 a ha => by
        rcases g3.n a ha with z | z
        · exact n0 a z
        · right
          cases hh : H1 a with
          | none => rfl
          | some o =>
            exfalso
            by_cases nb : ∀ (i : Nat) (b : Addr), δ[i]? = some (.b b) → σ[i]? ≠ some (some (.ref a))
            · rw [kp0 a o hh nb] at z; cases z
            · refine nb fun i b hi hs => ?_
              exact w2.s.no z i (.b b) hi ((ow hi).mpr hs)
      refine ht _ hm σ2 G2 H2 _ S2 fun b G3 H3 rb g3 => ?_
      have n3 := (nob2 n2).go g3
      cases b with
      | false =>
        show P (i + 1) H3
        refine ⟨G3, acc, q1.tr (x2.g.tr g3.g), fun a o ha nb => kp2 g3.k a o (kp0 a o ha nb) nb, ntr g3, back g3.s, n2.tellOther n3.at_ n3.gn, ?_⟩
        rw [dn false rb.symm]
        exact q6.up (x2.g.tr g3.g)
      | true =>
        show te σ2 H3 _
        refine he _ hm rb.symm σ2 G3 H3 _ g3.s fun dd y G4 H4 rd g4 dg => ?_
        subst rd
        have n4 := n3.go g4
        have g34 := g3.trans g4
        have S4 := back g4.s
        have n4' : Nob e δ (L2.wipe σ vs) G4 H4 D (.lst acc) := n2.tellOther n4.at_ n4.gn
        refine ⟨acc, n4.at_, ?_, G4, acc ++ [y], q1.tr (x2.g.tr g34.g), fun a o ha nb => ?_, ntr g34, S4.updN n4', n4'.upd, ?_⟩
        · have := q6.len
          have l2 : (done i).length ≤ i := by
            show (((xs.take i).filter p).map f).length ≤ _
            rw [List.length_map]
            have a1 := List.length_filter_le p (xs.take i)
            have a2 : (xs.take i).length ≤ i := by rw [List.length_take]; omega
            omega
          exact lenLt (by omega)
        · have : a ≠ D := fun z => by subst z; rw [hD] at ha; cases ha
          rw [upd_ne this]
          exact kp2 g34.k a o (kp0 a o ha nb) nb
        · rw [dn true rb.symm]
          exact (q6.up (x2.g.tr g34.g)).snoc dg
  · have e1 : i = xs.length := by omega
    subst e1
    refine .inl ⟨by have := it.stop H' (q1.tr q4.sub); rw [List.length_map] at this; exact this, ?_⟩
    have dl : done xs.length = (xs.filter p).map f := by show ((xs.take xs.length).filter p).map f = _; rw [List.take_length]
    rw [dl] at q6
    have S' := q4.unwipe h0
    have gg : Go e δ σ G1 H1 G' H' := ⟨q1, q2, q3, S'⟩
    exact k _ D acc G' H' rfl (g1.trans gg) ⟨q5.at_, q5.eh, q5.gn, fun j c h w => q5.no j c h ((ow h).mpr w)⟩ (g1.back hD) q6
end
end DL
/-! statements, loops, owned lists and dicts -/
namespace DL
open PySem L2
section
variable {e : Ent} {δ : Fm} {te ta tb : TE} {tt t u : TT} {R Ra Rb : PyData → Prop} {d da db : PyData} {K : PySem.W.Frag} {D : Ends} {σ : L2.St} {G H : Hp} {t1 t2 : TS}
/-! ### entry and exit -/
def frame0 (vs : List V) (ds : List PyData) (n : Nat) : Fm := List.zipWith Cell.p vs ds ++ List.replicate n .no
theorem zipP_at {G : Hp} : ∀ {vs : List V} {ds : List PyData}, DgAll G vs ds → ∀ {i : Nat} {c : Cell}, (List.zipWith Cell.p vs ds)[i]? = some c → ∃ v x, c = .p v x ∧ vs[i]? = some v ∧ Dg G v x
  | _, _, .nil, i, c, h => by simp at h
  | _, _, .cons h r, 0, c, e => by
    simp at e; subst e; exact ⟨_, _, rfl, rfl, h⟩
  | _, _, .cons h r, i + 1, c, e => by
    obtain ⟨v, x, a, b, q⟩ := zipP_at r (i := i) (by simpa using e)
    exact ⟨v, x, a, by simpa using b, q⟩
theorem Sd.begin {G H : Hp} (s : Ex G H) {vs : List V} {ds : List PyData} (h : DgAll G vs ds) (N : List Str) (hl : vs.length ≤ N.length) :
    Sd ⟨G, H, fun _ => False⟩ (frame0 vs ds (N.length - vs.length)) G H (L2.start N vs) := by
  have lz : (List.zipWith Cell.p vs ds).length = vs.length := by rw [List.length_zipWith, h.len, Nat.min_self]
  have at_ : ∀ {i : Nat} {c : Cell}, (frame0 vs ds (N.length - vs.length))[i]? = some c → c = .no ∨ ∃ v x, c = .p v x ∧ (L2.start N vs)[i]? = some (some v) ∧ Dg G v x := fun {i c} q => by
    unfold frame0 at q
    by_cases hi : i < vs.length
    · rw [List.getElem?_append_left (by omega)] at q
      obtain ⟨v, x, e1, e2, e3⟩ := zipP_at h q
      refine .inr ⟨v, x, e1, ?_, e3⟩
      unfold L2.start
      rw [List.getElem?_append_left (by simpa using hi), List.getElem?_map, e2]; rfl
    · rw [List.getElem?_append_right (by omega)] at q
      rw [List.getElem?_replicate] at q
      split at q
      · exact .inl (Option.some.inj q).symm
      · cases q
  refine ⟨s, Ex.rfl', fun _ _ q _ => q, fun _ q => .inl q, fun _ q => q.elim, ?_, fun i c q => ?_, fun i c a q w => ?_, fun i j c c' a q1 q2 w1 w2 => ?_⟩
  · unfold L2.start frame0
    simp only [List.length_append, List.length_map, List.length_replicate, lz]
  · rcases at_ q with z | ⟨v, x, e1, e2, e3⟩
    · subst z; trivial
    · subst e1; exact ⟨e2, e3⟩
  · rcases at_ q with z | ⟨v, x, e1, e2, e3⟩
    · subst z; exact w.elim
    · subst e1; exact w.elim
  · rcases at_ q1 with z | ⟨v, x, e1, e2, e3⟩
    · subst z; exact w1.elim
    · subst e1; exact w1.elim
theorem Sd.out {G0 H0 : Hp} (S : Sd ⟨G0, H0, fun _ => False⟩ δ G H σ) : Ext G0 H0 G H := ⟨S.grow, fun a o h => S.old a o h id, S.sub, S.new⟩
/-- an entry that knows more -/
structure Sub (e1 e : Ent) : Prop where
  back : ∀ {δ : Fm} {G H : Hp} {σ : L2.St}, Sd e1 δ G H σ → Sd e δ G H σ
  b : e1.B = e.B
theorem Sub.rfl' : Sub e e := ⟨fun s => s, rfl⟩
theorem Sub.tr {e1 e2 : Ent} (a : Sub e2 e1) (b : Sub e1 e) : Sub e2 e := ⟨fun s => b.back (a.back s), a.b.trans b.b⟩
theorem Sub.of (S : Sd e δ G H σ) : Sub { e with G := G } e := ⟨fun {δ1 G1 H1 σ1} s => ⟨s.sub, S.grow.tr s.grow, s.old, fun a h => by
  rcases s.new a h with q | q
  · exact S.new a q
  · exact .inr q, s.bs, s.len, s.cells, s.own, s.apart⟩, rfl⟩
theorem Sd.up (S : Sd e δ G H σ) : Sd { e with G := G } δ G H σ := ⟨S.sub, Ex.rfl', S.old, fun _ h => .inl h, S.bs, S.len, S.cells, S.own, S.apart⟩

/-! ### statements -/
theorem seq (h : t1 { D with nx := t2 D } σ H) : tSeq t1 t2 D σ H := h
theorem s_asgG {g : TG} (S : Sd e δ G H σ) (h : ER e te δ R) {δ' : PyData → Fm} {sl : List Nat} (hg : ∀ d, R d → GA e g δ d (δ' d) sl) (k : ∀ d σ' G' H', R d → Ex G G' → Sd e (δ' d) G' H' σ' → D.nx σ' H') : tAsg te g D σ H :=
  h σ G H _ S fun d v G' H' r w q => hg d r σ G' H' v _ w.s q fun σ' S' _ _ => k d σ' G' H' r w.g S'
theorem s_asg {i : Nat} (S : Sd e δ G H σ) (h : ER e te δ R) (k : ∀ d v G' H', R d → Ex G G' → Dg G' v d → Sd e (δ.set i (.d d)) G' H' (σ.set i (some v)) → D.nx (σ.set i (some v)) H') : tAsg te (gName i) D σ H :=
  h σ G H _ S fun d v G' H' r w q => k d v G' H' r w.g q (w.s.setD q)
theorem s_asgL {i : Nat} {Rl : List PyData → Prop} (S : Sd e δ G H σ) (h : EL e te δ Rl) (k : ∀ xs p G' H', Rl xs → Ex G G' → H p = none → Sd e (δ.set i (.l xs)) G' H' (σ.set i (some (.ref p))) → D.nx (σ.set i (some (.ref p))) H') : tAsg te (gName i) D σ H :=
  h σ G H _ S fun xs p ys G' H' r w n hp q => k xs p G' H' r w.g hp (w.s.setL n q)
theorem s_asgB {i : Nat} (S : Sd e δ G H σ) (h : EL e te δ (fun xs => ∃ x y, xs = [.int x, .int y])) (k : ∀ p G' H', Ex G G' → H p = none → Sd e (δ.set i (.b p)) G' H' (σ.set i (some (.ref p))) → D.nx (σ.set i (some (.ref p))) H') : tAsg te (gName i) D σ H :=
  h σ G H _ S fun xs p ys G' H' ⟨x, y, r⟩ w n hp q => by
    subst r
    have : ys = [.int x, .int y] := DgAll.ints (ns := [x, y]) q
    subst this
    exact k p G' H' w.g hp (w.s.setB n)
theorem s_if {Rt : Bool → Prop} (S : Sd e δ G H σ) (h : ET e t δ Rt) (h1 : Rt true → ∀ G' H', Ex G G' → Sd e δ G' H' σ → t1 D σ H') (h2 : Rt false → ∀ G' H', Ex G G' → Sd e δ G' H' σ → t2 D σ H') : tIfS t t1 t2 D σ H :=
  h σ G H _ S fun b G' H' r w => by
    cases b with
    | true => exact h1 r G' H' w.g w.s
    | false => exact h2 r G' H' w.g w.s
theorem s_ifB {b : Bool} (S : Sd e δ G H σ) (h : EB e t δ b) (h1 : b = true → ∀ G' H', Ex G G' → Sd e δ G' H' σ → t1 D σ H') (h2 : b = false → ∀ G' H', Ex G G' → Sd e δ G' H' σ → t2 D σ H') : tIfS t t1 t2 D σ H :=
  s_if S h (fun q => h1 q.symm) (fun q => h2 q.symm)
theorem s_ret (S : Sd e δ G H σ) (h : ER e te δ R) (k : ∀ d v G' H', R d → Ex G G' → Sd e δ G' H' σ → Dg G' v d → D.rt v H') : tRet te D σ H := h σ G H _ S fun d v G' H' r w q => k d v G' H' r w.g w.s q
theorem s_drop (S : Sd e δ G H σ) (h : ER e te δ R) (k : ∀ G' H', Ex G G' → Sd e δ G' H' σ → D.nx σ H') : tDrop te D σ H := h σ G H _ S fun d v G' H' r w q => k G' H' w.g w.s
theorem s_par {i j : Nat} {tr : TA} {Rs : List PyData → Prop} (S : Sd e δ G H σ) (h : EA e tr δ Rs) (h2 : ∀ ds, Rs ds → ds.length = 2) (k : ∀ d1 d2 v1 v2 G' H', Rs [d1, d2] → Ex G G' → Sd e ((δ.set i (.d d1)).set j (.d d2)) G' H' ((σ.set i (some v1)).set j (some v2)) → D.nx ((σ.set i (some v1)).set j (some v2)) H') : tPar i j tr D σ H :=
  h σ G H _ S fun ds vs G' H' r w q => by
    have l := h2 ds r
    cases q with
    | nil => simp at l
    | @cons v1 _ d1 _ q1 q2 =>
      cases q2 with
      | nil => simp at l
      | @cons v2 _ d2 _ q2 q3 =>
        cases q3 with
        | nil => exact ⟨v1, v2, rfl, k d1 d2 v1 v2 G' H' r w.g ((w.s.setD q1).setD q2)⟩
        | cons _ _ => simp at l

/-! ### loops -/
/-- what is to stand behind a turn -/
def Nx (e : Ent) (P : Fm → Prop) : L2.St → Hp → Prop := fun σ' H' => ∃ δ' G', P δ' ∧ Sd e δ' G' H' σ'
theorem s_for {wi : TI} {g : TG} {tb : TS} {Ri : List PyData → Prop} (S : Sd e δ G H σ) (hit : IT e wi δ Ri)
    (body : ∀ items, Ri items → ∃ Pv : Nat → Fm → Prop, Pv 0 δ ∧
      (∀ e1, Sub e1 e → ∀ (i : Nat) d δ1 σ1 G1 H1, items[i]? = some d → Pv i δ1 → Sd e1 δ1 G1 H1 σ1 → ∃ δ2 sl, GA e1 g δ1 d δ2 sl ∧
        ∀ σ2 G2 H2, Sd e1 δ2 G2 H2 σ2 → tb { D with nx := Nx e1 (Pv (i + 1)), ct := Nx e1 (Pv (i + 1)), bk := D.nx } σ2 H2) ∧
      (∀ δn σn Gn Hn, Pv items.length δn → Ex G Gn → Sd e δn Gn Hn σn → D.nx σn Hn)) : tFor wi g tb D σ H :=
  hit σ G H _ S fun items J G1 H1 r w it => by
    obtain ⟨Pv, p0, hs, hd⟩ := body items r
    have sb := Sub.of w.s
    refine ⟨fun i m σ' H' => m = items.length - i ∧ i ≤ items.length ∧ Nx { e with G := G1 } (Pv i) σ' H', ⟨items.length, by omega, Nat.zero_le _, δ, G1, p0, w.s.up⟩, fun i m σ' H' hW => ?_⟩
    obtain ⟨rfl, hi, δ', G', p, S'⟩ := hW
    by_cases hlt : i < items.length
    · have hx : items[i]? = some items[i] := List.getElem?_eq_getElem hlt
      obtain ⟨j1, j2⟩ := it.go i _ G' H' S'.grow S'.sub hx
      refine .inr ⟨j1, Nx { e with G := G1 } (Pv (i + 1)), fun σ2 H2 q => ⟨items.length - (i + 1), by omega, rfl, hlt, q⟩, fun v H2 y => ?_⟩
      obtain ⟨G2, x2, d2⟩ := j2 v H2 y
      obtain ⟨δ2, sl, hg, hb⟩ := hs _ sb i _ δ' σ' G' H' hx p S'
      exact hg σ' G2 H2 v _ (S'.go x2).s d2 fun σ2 S2 _ _ => hb σ2 G2 H2 S2
    · have : i = items.length := by omega
      subst this
      exact .inl ⟨it.stop H' (S'.grow.tr S'.sub), hd δ' σ' G' H' p (w.g.tr S'.grow) (sb.back S')⟩
theorem s_forD {wi : TI} {g : TG} {tb : TS} {items : List PyData} (S : Sd e δ G H σ) (hit : ITD e wi δ items) (Pv : Nat → Fm → Prop) (p0 : Pv 0 δ)
    (hs : ∀ e1, Sub e1 e → ∀ (i : Nat) d δ1 σ1 G1 H1, items[i]? = some d → Pv i δ1 → Sd e1 δ1 G1 H1 σ1 → ∃ δ2 sl, GA e1 g δ1 d δ2 sl ∧
        ∀ σ2 G2 H2, Sd e1 δ2 G2 H2 σ2 → tb { D with nx := Nx e1 (Pv (i + 1)), ct := Nx e1 (Pv (i + 1)), bk := D.nx } σ2 H2)
    (hd : ∀ δn σn Gn Hn, Pv items.length δn → Ex G Gn → Sd e δn Gn Hn σn → D.nx σn Hn) : tFor wi g tb D σ H := s_for S hit fun _ q => by subst q; exact ⟨Pv, p0, hs, hd⟩
theorem s_while {tb : TS} (S : Sd e δ G H σ) (W : Nat → Fm → Prop) (m0 : Nat) (p0 : W m0 δ)
    (hs : ∀ e1, Sub e1 e → ∀ m δ1 σ1 G1 H1, W m δ1 → Sd e1 δ1 G1 H1 σ1 → ∃ b, EB e1 t δ1 b ∧ (b = true → ∀ G2 H2, Sd e1 δ1 G2 H2 σ1 → tb { D with nx := Nx e1 (fun δ' => ∃ m', m' < m ∧ W m' δ'), ct := Nx e1 (fun δ' => ∃ m', m' < m ∧ W m' δ'), bk := D.nx } σ1 H2) ∧
      (b = false → ∀ G2 H2, Ex G G2 → Sd e δ1 G2 H2 σ1 → D.nx σ1 H2)) : tWhile t tb D σ H := by
  have sb := Sub.of S
  refine ⟨fun m σ' H' => Nx { e with G := G } (W m) σ' H', ⟨m0, δ, G, p0, S.up⟩, fun m σ1 H1 hW => ?_⟩
  obtain ⟨δ1, G1, w, S1⟩ := hW
  obtain ⟨b, hb, h1, h2⟩ := hs _ sb m δ1 σ1 G1 H1 w S1
  refine hb σ1 G1 H1 _ S1 fun b' G2 H2 r g => ?_
  subst r
  cases b' with
  | true =>
    show ∃ N : L2.St → Hp → Prop, _
    refine ⟨_, fun σ' H' hN => ?_, h1 rfl G2 H2 g.s⟩
    obtain ⟨δ', G', ⟨m', lt, w'⟩, S'⟩ := hN
    exact ⟨m', lt, δ', G', w', S'⟩
  | false => exact h2 rfl G2 H2 g.s.grow (sb.back g.s)

/-! ### owned lists, read -/
theorem Sd.ownL {xs : List PyData} {i : Nat} (S : Sd e δ G H σ) (h : δ[i]? = some (.l xs)) : ∃ a ys, σ[i]? = some (some (.ref a)) ∧ H a = some (.lst ys) ∧ DgAll G ys xs := S.cells i _ h
theorem ed_lenO {r : List V → Hp → VK → Prop} (hr : r = fun xs H Q => ∃ p ys, xs = [.ref p] ∧ (SqL K H p ys ∨ SqT K H p ys) ∧ Q (.int ys.length) H) {xs : List PyData} {i : Nat} (h : δ[i]? = some (.l xs)) : ED e (tCB r (tCons (tVar i) tNil)) δ (.int xs.length) := fun σ G H Q S k => by
  subst hr
  obtain ⟨a, ys, h1, h2, h3⟩ := S.ownL h
  exact ⟨_, h1, a, ys, rfl, .inl (SqL.of h2), k _ _ G H rfl (Go.refl S) (by rw [h3.len]; exact .int _)⟩
theorem ed_ixO {xs : List PyData} {i n : Nat} (h : δ[i]? = some (.l xs)) (hb : ED e tb δ (.int (n : Int))) (hx : xs[n]? = some d) : ED e (tOp (rIx K) (tVar i) tb) δ d := fun σ G H Q S k => by
  obtain ⟨a, ys, h1, h2, h3⟩ := S.ownL h
  refine ⟨_, h1, hb σ G H _ S fun d' v G1 H1 r g q => ?_⟩
  subst r; cases q
  obtain ⟨a', ys', k1, k2, k3⟩ := g.s.ownL h
  rw [h1] at k1; cases k1
  obtain ⟨v, hv, dv⟩ := k3.get hx
  exact .inl ⟨a, ys', n, v, rfl, rfl, SqL.of k2, atI_nat hv, k d v G1 H1 rfl g dv⟩
theorem ed_ixLast {xs : List PyData} {i : Nat} (h : δ[i]? = some (.l (xs ++ [d]))) (hb : ED e tb δ (.int (-1))) : ED e (tOp (rIx K) (tVar i) tb) δ d := fun σ G H Q S k => by
  obtain ⟨a, ys, h1, h2, h3⟩ := S.ownL h
  refine ⟨_, h1, hb σ G H _ S fun d' v G1 H1 r g q => ?_⟩
  subst r; cases q
  obtain ⟨a', ys', k1, k2, k3⟩ := g.s.ownL h
  rw [h1] at k1; cases k1
  obtain ⟨v, hv, dv⟩ := k3.get (i := xs.length) (d := d) (by simp)
  have hl : ys'.length = xs.length + 1 := by rw [k3.len]; simp
  have : atI ys' (-1) = some v := by
    unfold atI ixN
    rw [if_neg (by omega), if_pos (by omega)]
    show ys'[((-1 : Int) + (ys'.length : Int)).toNat]? = _
    rw [show ((-1 : Int) + (ys'.length : Int)).toNat = xs.length by omega]
    exact hv
  exact .inl ⟨a, ys', -1, v, rfl, rfl, SqL.of k2, this, k d v G1 H1 rfl g dv⟩
theorem ed_inO {neg : Bool} {ns : List Int} {i : Nat} {x : Int} (ha : ED e ta δ (.int x)) (h : δ[i]? = some (.l (ns.map PyData.int))) : ED e (tOp (rIn K neg) ta (tVar i)) δ (.bool (if neg then !decide (x ∈ ns) else decide (x ∈ ns))) := fun σ G H Q S k => ha σ G H _ S fun d' v G1 H1 r g q => by
  subst r; cases q
  obtain ⟨a, ys, h1, h2, h3⟩ := g.s.ownL h
  have := h3.ints
  subst this
  refine ⟨_, h1, _, _, rfl, .inl (SqL.of h2), rfl, flat_ints ns, k _ _ G1 H1 rfl g ?_⟩
  rw [inV_ints]; exact .bl _
theorem ed_tupO {r : List V → Hp → VK → Prop} (hr : r = fun xs H Q => ∃ p ys, xs = [.ref p] ∧ ((SqL K H p ys ∧ ∀ l, H l = none → Q (.ref l) (upd H l (.tup ys))) ∨ (SqT K H p ys ∧ Q (.ref p) H))) {xs : List PyData} {i : Nat} (h : δ[i]? = some (.l xs)) : ED e (tCB r (tCons (tVar i) tNil)) δ (.tuple xs) := fun σ G H Q S k => by
  subst hr
  obtain ⟨a, ys, h1, h2, h3⟩ := S.ownL h
  refine ⟨_, h1, a, ys, rfl, .inl ⟨SqL.of h2, fun l hl => ?_⟩⟩
  have x := Ext.alloc (o := .tup ys) S.sub hl
  exact k _ _ _ _ rfl (S.go x) (.tup upd_same (h3.up x.g))
theorem el_revO {xs : List PyData} {i : Nat} (h : δ[i]? = some (.l xs)) : ELD e (tRevL K (tVar i)) δ xs.reverse := fun σ G H Q S k => by
  obtain ⟨a, ys, h1, h2, h3⟩ := S.ownL h
  exact ⟨_, h1, a, ys, rfl, SqL.of h2, fun p hp => k _ p ys.reverse G _ rfl (S.go (Ext.allocH S.sub hp)) (Nob.new S hp) hp h3.rev⟩
theorem ed_tupOf {r : List V → Hp → VK → Prop} (hr : r = fun xs H Q => ∃ p ys, xs = [.ref p] ∧ ((SqL K H p ys ∧ ∀ l, H l = none → Q (.ref l) (upd H l (.tup ys))) ∨ (SqT K H p ys ∧ Q (.ref p) H))) {Rl : List PyData → Prop} (h : EL e te δ Rl) : ER e (tCB r (tCons te tNil)) δ (fun d => ∃ xs, Rl xs ∧ d = .tuple xs) := fun σ G H Q S k => h σ G H _ S fun xs p ys G1 H1 rx g n hp q => by
  subst hr
  refine ⟨p, ys, rfl, .inl ⟨SqL.of n.at_, fun l hl => ?_⟩⟩
  have x := Ext.alloc (o := .tup ys) g.s.sub hl
  exact k _ _ _ _ ⟨xs, rx, rfl⟩ (g.trans (g.s.go x)) (.tup upd_same (q.up x.g))

/-! ### owned lists, changed -/
theorem s_app {xs : List PyData} {i : Nat} (S : Sd e δ G H σ) (hi : δ[i]? = some (.l xs)) (h : ER e te δ R) (hz : xs.length < 1000000) (k : ∀ d G' H', R d → Ex G G' → Sd e (δ.set i (.l (xs ++ [d]))) G' H' σ → D.nx σ H') :
    tDrop (tBM K "list" rAppend (tVar i) (tCons te tNil)) D σ H := by
  obtain ⟨a, ys, h1, h2, h3⟩ := S.ownL hi
  refine ⟨_, h1, .inl ⟨rfl, _, SqL.of h2⟩, h σ G H _ S fun d v G1 H1 r g q => ?_⟩
  obtain ⟨a', ys', k1, k2, k3⟩ := g.s.ownL hi
  rw [h1] at k1; cases k1
  exact ⟨a, ys', v, rfl, rfl, k2, lenLt (by rw [k3.len]; exact hz), k d G1 _ r g.g (g.s.mut hi h1 (fun _ w => w) ⟨a, _, h1, upd_same, k3.snoc q⟩)⟩
theorem s_setL {xs : List PyData} {i n : Nat} (S : Sd e δ G H σ) (hi : δ[i]? = some (.l xs)) (h : ER e te δ R) (hb : ED e tb δ (.int (n : Int))) (hn : n < xs.length) (k : ∀ d G' H', R d → Ex G G' → Sd e (δ.set i (.l (xs.set n d))) G' H' σ → D.nx σ H') :
    tAsg te (gSub (tVar i) tb rSetL) D σ H := h σ G H _ S fun d v G1 H1 r g q => by
  obtain ⟨a, ys, h1, h2, h3⟩ := g.s.ownL hi
  refine ⟨_, h1, hb σ G1 H1 _ g.s fun d' v' G2 H2 r' g' q' => ?_⟩
  subst r'; cases q'
  obtain ⟨a', ys', k1, k2, k3⟩ := g'.s.ownL hi
  rw [h1] at k1; cases k1
  refine ⟨a, ys', n, n, rfl, rfl, k2, ?_, k d G2 _ r (g.g.tr g'.g) (g'.s.mut hi h1 (fun _ w => w) ⟨a, _, h1, upd_same, DgAll.set (q.up g'.g) k3 n⟩)⟩
  unfold ixN
  rw [if_pos (by omega), if_pos (by rw [k3.len]; omega)]; rfl
/-- xs[i] op= y, an item read by its list -/
theorem get_list {X : Cx} : PGet X (rIxL X.K) := by
  intro pins s σ H o i ov iv Q I ro ri h
  obtain ⟨p, xs, k, z, rfl, rfl, hq, he, q⟩ := h
  cases ro
  obtain ⟨t, rfl⟩ := ri
  obtain ⟨us, ru, lu, _⟩ := I.list hq
  obtain ⟨m, ix, got, _, below, above⟩ := atI_get he
  obtain ⟨u, eu, zu⟩ := ru.get got
  have len := ru.length
  have small := line63
  have done : EP X pins σ Q u s := ⟨z, H, I, zu, q⟩
  by_cases h0 : 0 ≤ k
  · have hj : k.toNat = m := by
      rw [seqIndex_of h0 above] at ix
      exact Option.some.inj ix
    exact wpAny_getItem_list lu.isList h0 (by omega) (by rw [hj]; simpa using eu) done
  · have hj : (k + (us.toArray.size : Int)).toNat = m := by
      rw [seqIndex_neg (by omega) below] at ix
      rw [List.size_toArray, ← len]
      exact Option.some.inj ix
    exact wpAny_getItem_list_neg lu.isList (by omega) (by rw [List.size_toArray] <;> omega) (by omega) (by rw [hj]; simpa using eu) done
theorem s_augL {xs : List PyData} {i n : Nat} {x y : Int} {f : Int → Int → Int} (S : Sd e δ G H σ) (hi : δ[i]? = some (.l xs)) (hb : ED e tb δ (.int (n : Int))) (hx : xs[n]? = some (.int x)) (h : ED e te δ (.int y)) (k : ∀ G' H', Ex G G' → Sd e (δ.set i (.l (xs.set n (.int (f x y))))) G' H' σ → D.nx σ H') :
    tAugS (tVar i) tb te (rIxL K) (ipI f) rSetL D σ H := by
  obtain ⟨a, ys, h1, h2, h3⟩ := S.ownL hi
  have hn : n < xs.length := (List.getElem?_eq_some_iff.mp hx).1
  refine ⟨_, h1, hb σ G H _ S fun d' v' G1 H1 r' g q' => ?_⟩
  subst r'; cases q'
  obtain ⟨a', ys1, k1, k2, k3⟩ := g.s.ownL hi
  rw [h1] at k1; cases k1
  obtain ⟨v, hv, dv⟩ := k3.get hx
  cases dv
  refine ⟨a, ys1, n, _, rfl, rfl, SqL.of k2, atI_nat hv, h σ G1 H1 _ g.s fun d2 v2 G2 H2 r2 g2 q2 => ?_⟩
  subst r2; cases q2
  obtain ⟨a', ys2, l1, l2, l3⟩ := g2.s.ownL hi
  rw [h1] at l1; cases l1
  refine ⟨x, y, rfl, rfl, a, ys2, n, n, rfl, rfl, l2, ?_, k G2 _ (g.g.tr g2.g) (g2.s.mut hi h1 (fun _ w => w) ⟨a, _, h1, upd_same, DgAll.set (.int _) l3 n⟩)⟩
  unfold ixN
  rw [if_pos (by omega), if_pos (by rw [l3.len]; omega)]; rfl

/-! ### dicts -/
def lookI : List (PyData × PyData) → Int → Option PyData
  | [], _ => none
  | (.int j, x) :: r, i => if j = i then some x else lookI r i
  | _ :: r, i => lookI r i
theorem look_kv {G : Hp} {i : Int} : ∀ {ks : List (Key × V)} {kvs : List (PyData × PyData)}, DgKv G ks kvs → match lookI kvs i with
    | some x => ∃ v, valV ks (.inl i) = some v ∧ Dg G v x
    | none => valV ks (.inl i) = none
  | _, _, .nil => rfl
  | _, _, .cons (k := k) h r => by
    have ih := look_kv (i := i) r
    by_cases q : k = i
    · subst q
      have e1 : ∀ x kvs, lookI ((PyData.int k, x) :: kvs) k = some x := fun x kvs => by
        show (if k = k then some x else lookI kvs k) = _
        rw [if_pos rfl]
      rw [e1]
      exact ⟨_, valV_pos rfl, h⟩
    · have e1 : ∀ x kvs, lookI ((PyData.int k, x) :: kvs) i = lookI kvs i := fun x kvs => by
        show (if k = i then some x else lookI kvs i) = _
        rw [if_neg q]
      rw [e1, valV_neg (fun z => q (Sum.inl.inj z))]
      exact ih
theorem DgKv.snoc {G : Hp} {i : Int} {v : V} {x : PyData} (q : Dg G v x) : ∀ {ks : List (Key × V)} {kvs : List (PyData × PyData)}, DgKv G ks kvs → DgKv G (ks ++ [(.inl i, v)]) (kvs ++ [(.int i, x)])
  | _, _, .nil => .cons q .nil
  | _, _, .cons h r => .cons h (DgKv.snoc q r)
theorem DgKv.len {G : Hp} : ∀ {ks : List (Key × V)} {kvs : List (PyData × PyData)}, DgKv G ks kvs → ks.length = kvs.length
  | _, _, .nil => rfl
  | _, _, .cons h r => by simp [r.len]
theorem put_new {ks : List (Key × V)} {k : Key} {v : V} (h : valV ks k = none) : putK ks k v = ks ++ [(k, v)] := by
  unfold putK
  rw [valV_any, h]; rfl
theorem Sd.ownM {kvs : List (PyData × PyData)} {i : Nat} (S : Sd e δ G H σ) (h : δ[i]? = some (.m kvs)) : ∃ a ks, σ[i]? = some (some (.ref a)) ∧ H a = some (.dK ks) ∧ DgKv G ks kvs := S.cells i _ h
theorem ed_notInM {kvs : List (PyData × PyData)} {i : Nat} {x : Int} (ha : ED e ta δ (.int x)) (h : δ[i]? = some (.m kvs)) : ED e (tDNotIn ta (tVar i)) δ (.bool (!(lookI kvs x).isSome)) := fun σ G H Q S k => ha σ G H _ S fun d' v G1 H1 r g q => by
  subst r; cases q
  obtain ⟨a, ks, h1, h2, h3⟩ := g.s.ownM h
  have l := look_kv (i := x) h3
  refine ⟨_, h1, a, valV ks (.inl x), rfl, DGet.k (k := .inl x) h2, k _ _ G1 H1 rfl g ?_⟩
  cases q : lookI kvs x with
  | none => rw [q] at l; rw [show valV ks (.inl x) = none from l]; exact .bl _
  | some z => rw [q] at l; obtain ⟨w, l1, _⟩ := l; rw [l1]; exact .bl _
theorem ed_inM {kvs : List (PyData × PyData)} {i : Nat} {x : Int} (ha : ED e ta δ (.int x)) (h : δ[i]? = some (.m kvs)) : ED e (tDIn ta (tVar i)) δ (.bool (lookI kvs x).isSome) := fun σ G H Q S k => ha σ G H _ S fun d' v G1 H1 r g q => by
  subst r; cases q
  obtain ⟨a, ks, h1, h2, h3⟩ := g.s.ownM h
  have l := look_kv (i := x) h3
  refine ⟨_, h1, a, valV ks (.inl x), rfl, DGet.k (k := .inl x) h2, k _ _ G1 H1 rfl g ?_⟩
  cases q : lookI kvs x with
  | none => rw [q] at l; rw [show valV ks (.inl x) = none from l]; exact .bl _
  | some z => rw [q] at l; obtain ⟨w, l1, _⟩ := l; rw [l1]; exact .bl _
/-- a dict that stands -/
theorem ed_inD {kvs : List (PyData × PyData)} {x : Int} (ha : ED e ta δ (.int x)) (hb : ED e tb δ (.dict kvs)) : ED e (tDIn ta tb) δ (.bool (lookI kvs x).isSome) := fun σ G H Q S k => ha σ G H _ S fun d' v G1 H1 r g q => hb σ G1 H1 _ g.s fun d2 v2 G2 H2 r2 g2 q2 => by
  subst r r2; cases q
  cases q2 with
  | @dic a ks _ f q2 =>
    have l := look_kv (i := x) q2
    refine ⟨a, valV ks (.inl x), rfl, DGet.k (k := .inl x) (g2.s.sub _ _ f), k _ _ G2 H2 rfl (g.trans g2) ?_⟩
    cases q : lookI kvs x with
    | none => rw [q] at l; rw [show valV ks (.inl x) = none from l]; exact .bl _
    | some z => rw [q] at l; obtain ⟨w, l1, _⟩ := l; rw [l1]; exact .bl _
theorem ed_getD {kvs : List (PyData × PyData)} {x : Int} (ha : ED e ta δ (.dict kvs)) (hb : ED e tb δ (.int x)) (h : lookI kvs x = some d) : ED e (tDGet ta tb) δ d := fun σ G H Q S k => ha σ G H _ S fun d' v G1 H1 r g q => hb σ G1 H1 _ g.s fun d2 v2 G2 H2 r2 g2 q2 => by
  subst r r2; cases q2
  cases q with
  | @dic a ks _ f q =>
    have l := look_kv (i := x) (q.up g2.g)
    rw [h] at l
    obtain ⟨w, l1, l2⟩ := l
    exact ⟨a, w, rfl, by rw [← l1]; exact DGet.k (k := .inl x) (g2.s.sub _ _ (g2.g _ _ f)), k _ _ G2 H2 rfl (g.trans g2) l2⟩
theorem s_dput {kvs : List (PyData × PyData)} {i : Nat} {x : Int} (S : Sd e δ G H σ) (hi : δ[i]? = some (.m kvs)) (h : ER e te δ R) (hb : ED e tb δ (.int x)) (hn : lookI kvs x = none) (hz : kvs.length < 1000000) (k : ∀ d G' H', R d → Ex G G' → Sd e (δ.set i (.m (kvs ++ [(.int x, d)]))) G' H' σ → D.nx σ H') :
    sDPut (tVar i) tb te D σ H := h σ G H _ S fun d v G1 H1 r g q => by
  obtain ⟨a, ks, h1, h2, h3⟩ := g.s.ownM hi
  refine ⟨_, h1, hb σ G1 H1 _ g.s fun d' v' G2 H2 r' g' q' => ?_⟩
  subst r'; cases q'
  obtain ⟨a', ks', k1, k2, k3⟩ := g'.s.ownM hi
  rw [h1] at k1; cases k1
  have l := look_kv (i := x) k3
  rw [hn] at l
  have e1 : putK ks' (.inl x) v = ks' ++ [(.inl x, v)] := put_new l
  refine ⟨a, _, rfl, DPut.k (k := .inl x) k2 (lenLt (by rw [k3.len]; exact hz)), ?_⟩
  rw [e1]
  exact k d G2 _ r (g.g.tr g'.g) (g'.s.mut hi h1 (fun _ w => w) ⟨a, _, h1, upd_same, k3.snoc (q.up g'.g)⟩)
theorem keys_int {G : Hp} : ∀ {ks : List (Key × V)} {kvs : List (PyData × PyData)}, DgKv G ks kvs → DgAll G (ks.map fun kv => kV kv.1) (kvs.map (·.1))
  | _, _, .nil => .nil
  | _, _, .cons h r => .cons (.int _) (keys_int r)
theorem el_listD {kvs : List (PyData × PyData)} (h : ED e ta δ (.dict kvs)) : ELD e (tCB rListD (tCons ta tNil)) δ (kvs.map (·.1)) :=
  el_cb (ea_c h ea_nil) fun _ q G H vs Q s hv k => by
    subst q
    cases hv with
    | cons h1 h2 =>
      cases h2
      cases h1 with
      | dic f q => exact ⟨_, _, rfl, s _ _ f, fun p hp => k _ _ p rfl (keys_int q) hp⟩
end
end DL
/-! the mathematics: nets, loads, cuts, steps. Plain Lean. -/
namespace FM
structure Arc where
  tl : Nat
  hd : Nat
  mo : Option Int
  deriving DecidableEq

def WfA (n : Nat) (a : Arc) : Prop := a.tl < n ∧ a.hd < n ∧ ∀ m, a.mo = some m → 0 ≤ m
def Wf (n : Nat) (as : List Arc) : Prop := ∀ a ∈ as, WfA n a

/-- a load -/
inductive Borne : List Arc → List Int → Prop where
  | nil : Borne [] []
  | cons {a : Arc} {x : Int} {as : List Arc} {l : List Int} : 0 ≤ x → (∀ m, a.mo = some m → x ≤ m) → Borne as l → Borne (a :: as) (x :: l)

theorem Borne.len : ∀ {as : List Arc} {l : List Int}, Borne as l → l.length = as.length
  | _, _, .nil => rfl
  | _, _, .cons _ _ h => by simp [h.len]
theorem Borne.get : ∀ {as : List Arc} {l : List Int}, Borne as l → ∀ {i : Nat} {a : Arc} {x : Int}, as[i]? = some a → l[i]? = some x → 0 ≤ x ∧ ∀ m, a.mo = some m → x ≤ m
  | _, _, .nil, i, a, x, h, _ => by simp at h
  | _, _, .cons h1 h2 _, 0, a, x, e1, e2 => by
    simp at e1 e2; subst e1; subst e2; exact ⟨h1, h2⟩
  | _, _, .cons _ _ h, i + 1, a, x, e1, e2 => h.get (i := i) (by simpa using e1) (by simpa using e2)
theorem Borne.of : ∀ {as : List Arc} {l : List Int}, l.length = as.length → (∀ (i : Nat) (a : Arc) (x : Int), as[i]? = some a → l[i]? = some x → 0 ≤ x ∧ ∀ m, a.mo = some m → x ≤ m) → Borne as l
  | [], [], _, _ => .nil
  | [], _ :: _, h, _ => absurd h (by simp)
  | _ :: _, [], h, _ => absurd h (by simp)
  | a :: as, x :: l, h, f => by
    have h0 := f 0 a x rfl rfl
    refine .cons h0.1 h0.2 (Borne.of (by simpa using h) fun i b y e1 e2 => f (i + 1) b y (by simpa using e1) (by simpa using e2))

/-- what comes in less what goes out -/
def one (b : Bool) (x : Int) : Int := if b then x else 0
def sur : List Arc → List Int → Nat → Int
  | a :: as, x :: l, v => one (a.hd == v) x - one (a.tl == v) x + sur as l v
  | _, _, _ => 0

def Fits (n : Nat) (as : List Arc) (ends : List Nat) (l : List Int) : Prop := Borne as l ∧ ∀ v, v < n → v ∉ ends → sur as l v = 0
def Flow (n : Nat) (as : List Arc) (s t : Nat) (l : List Int) : Prop := Borne as l ∧ ∀ v, v < n → v ≠ s → v ≠ t → sur as l v = 0

/-- what leaves a lot -/
def outw : List Arc → List Int → (Nat → Bool) → Int
  | a :: as, x :: l, S => one (S a.tl && !S a.hd) x + outw as l S
  | _, _, _ => 0
def inw : List Arc → List Int → (Nat → Bool) → Int
  | a :: as, x :: l, S => one (!S a.tl && S a.hd) x + inw as l S
  | _, _, _ => 0
/-- what the arcs out of a lot bear together -/
def cutw : List Arc → (Nat → Bool) → Option Int
  | [], _ => some 0
  | a :: as, S => if S a.tl && !S a.hd then (match a.mo, cutw as S with
      | some m, some r => some (m + r)
      | _, _ => none) else cutw as S

/-- sums over the nodes below n outside of S -/
def sumN (f : Nat → Int) : Nat → Int
  | 0 => 0
  | n + 1 => sumN f n + f n
theorem sumN_add (f g : Nat → Int) : ∀ n, sumN (fun v => f v + g v) n = sumN f n + sumN g n
  | 0 => rfl
  | n + 1 => by simp only [sumN, sumN_add f g n]; omega
theorem sumN_sub (f g : Nat → Int) : ∀ n, sumN (fun v => f v - g v) n = sumN f n - sumN g n
  | 0 => rfl
  | n + 1 => by simp only [sumN, sumN_sub f g n]; omega
theorem sumN_zero {f : Nat → Int} : ∀ n, (∀ v, v < n → f v = 0) → sumN f n = 0
  | 0, _ => rfl
  | n + 1, h => by
    simp only [sumN, sumN_zero n fun v hv => h v (by omega), h n (by omega)]; omega
theorem sumN_congr {f g : Nat → Int} : ∀ n, (∀ v, v < n → f v = g v) → sumN f n = sumN g n
  | 0, _ => rfl
  | n + 1, h => by simp only [sumN, sumN_congr n fun v hv => h v (by omega), h n (by omega)]
theorem sumN_one {t : Nat} {c : Int} : ∀ n, t < n → sumN (fun v => if v = t then c else 0) n = c
  | 0, h => by omega
  | n + 1, h => by
    by_cases e : t = n
    · subst e
      simp only [sumN, if_true]
      rw [sumN_zero t fun v hv => if_neg (by omega)]; omega
    · have ih := sumN_one (t := t) (c := c) n (by omega)
      simp only [sumN, ih]
      rw [if_neg (by omega)]; omega
/-- the part outside of S -/
def offS (S : Nat → Bool) (f : Nat → Int) (v : Nat) : Int := if S v then 0 else f v

theorem sum_off_one {S : Nat → Bool} {h : Nat} {x : Int} {n : Nat} (hn : h < n) : sumN (fun v => offS S (fun v => one (h == v) x) v) n = one (!S h) x := by
  have e : sumN (fun v => offS S (fun v => one (h == v) x) v) n = sumN (fun v => if v = h then one (!S h) x else 0) n := by
    refine sumN_congr n fun v _ => ?_
    by_cases q : v = h
    · subst q
      cases hS : S v <;> simp [offS, one, hS]
    · have : (h == v) = false := by simp; omega
      simp [offS, one, this, q]
  rw [e, sumN_one n hn]

theorem sum_sur {n : Nat} {S : Nat → Bool} : ∀ {as : List Arc} {l : List Int}, Wf n as → sumN (fun v => offS S (sur as l) v) n = outw as l S - inw as l S
  | [], l, _ => by
    rw [sumN_zero]
    · cases l <;> rfl
    · intro v _
      cases l <;> simp [offS, sur]
  | a :: as, [], _ => by
    rw [sumN_zero]
    · rfl
    · intro v _
      simp [offS, sur]
  | a :: as, x :: l, wf => by
    have ih := sum_sur (S := S) (as := as) (l := l) fun b hb => wf b (List.mem_cons_of_mem _ hb)
    have wa := wf a List.mem_cons_self
    have e : sumN (fun v => offS S (sur (a :: as) (x :: l)) v) n = sumN (fun v => (offS S (fun v => one (a.hd == v) x) v - offS S (fun v => one (a.tl == v) x) v) + offS S (sur as l) v) n := by
      refine sumN_congr n fun v _ => ?_
      cases hS : S v <;> simp [offS, hS, sur]
    rw [e, sumN_add, sumN_sub, sum_off_one wa.2.1, sum_off_one wa.1, ih]
    simp only [outw, inw]
    cases h1 : S a.tl <;> cases h2 : S a.hd <;> simp [one] <;> omega

theorem flow_cut {n s t : Nat} {as : List Arc} {l : List Int} {S : Nat → Bool} (wf : Wf n as) (f : Flow n as s t l) (ht : t < n) (hs : S s = true) (hT : S t = false) : sur as l t = outw as l S - inw as l S := by
  rw [← sum_sur wf]
  have e : sumN (fun v => offS S (sur as l) v) n = sumN (fun v => if v = t then sur as l t else 0) n := by
    refine sumN_congr n fun v hv => ?_
    by_cases q : v = t
    · subst q; simp [offS, hT]
    · rw [if_neg q]
      unfold offS
      cases hS : S v
      · have : v ≠ s := fun z => by subst z; rw [hs] at hS; cases hS
        simp [f.2 v hv this q]
      · simp
  rw [e, sumN_one n ht]

theorem in_nonneg {S : Nat → Bool} : ∀ {as : List Arc} {l : List Int}, Borne as l → 0 ≤ inw as l S
  | _, _, .nil => Int.le_refl 0
  | _, _, .cons (a := a) (x := x) h _ hr => by
    have := in_nonneg (S := S) hr
    simp only [inw, one]
    split <;> omega
theorem out_le {S : Nat → Bool} : ∀ {as : List Arc} {l : List Int} {c : Int}, Borne as l → cutw as S = some c → outw as l S ≤ c
  | _, _, c, .nil, h => by simp [cutw] at h; subst h; exact Int.le_refl 0
  | _, _, c, .cons (a := a) (x := x) (as := as) (l := l) h0 hm hr, h => by
    simp only [cutw] at h
    simp only [outw, one]
    by_cases q : (S a.tl && !S a.hd) = true
    · rw [if_pos q] at h
      rw [if_pos q]
      cases hmo : a.mo with
      | none => rw [hmo] at h; cases hc : cutw as S <;> rw [hc] at h <;> cases h
      | some m =>
        rw [hmo] at h
        cases hc : cutw as S with
        | none => (rw [hc] at h; cases h)
        | some r =>
          rw [hc] at h
          have e : m + r = c := by simpa using h
          have := out_le hr hc
          have := hm m hmo
          omega
    · rw [if_neg q] at h
      rw [if_neg q]
      have := out_le hr h
      omega
theorem weak {n s t : Nat} {as : List Arc} {l : List Int} {S : Nat → Bool} {c : Int} (wf : Wf n as) (f : Flow n as s t l) (ht : t < n) (hs : S s = true) (hT : S t = false) (hc : cutw as S = some c) : sur as l t ≤ c := by
  have e := flow_cut wf f ht hs hT
  have h1 := out_le f.1 hc
  have h2 := in_nonneg (S := S) f.1
  omega

/-! ### steps -/
/-- how often a step can be gone -/
def lft (a : Arc) (x : Int) (f : Bool) : Option Int := if f then (match a.mo with
  | some m => some (m - x)
  | none => none) else some x
/-- a step that can be gone -/
def Res (as : List Arc) (l : List Int) (u v i : Nat) (f : Bool) : Prop :=
  ∃ a x, as[i]? = some a ∧ l[i]? = some x ∧ lft a x f ≠ some 0 ∧ u = (if f then a.tl else a.hd) ∧ v = (if f then a.hd else a.tl)
def Edge (as : List Arc) (l : List Int) (u v : Nat) : Prop := ∃ i f, Res as l u v i f
inductive Reach (as : List Arc) (l : List Int) (s : Nat) : Nat → Prop where
  | refl : Reach as l s s
  | step {u v : Nat} : Reach as l s u → Edge as l u v → Reach as l s v
/-- nothing leads out of S -/
def Closed (as : List Arc) (l : List Int) (S : Nat → Bool) : Prop := ∀ u v, S u = true → Edge as l u v → S v = true
theorem Reach.in {as : List Arc} {l : List Int} {s v : Nat} {S : Nat → Bool} (c : Closed as l S) (hs : S s = true) (r : Reach as l s v) : S v = true := by
  induction r with
  | refl => exact hs
  | step _ e ih => exact c _ _ ih e

theorem Edge.cons {a : Arc} {x : Int} {as : List Arc} {l : List Int} {u v : Nat} (e : Edge as l u v) : Edge (a :: as) (x :: l) u v := by
  obtain ⟨i, f, b, y, h1, h2, h3⟩ := e
  exact ⟨i + 1, f, b, y, by simpa using h1, by simpa using h2, h3⟩
theorem Closed.tail {a : Arc} {x : Int} {as : List Arc} {l : List Int} {S : Nat → Bool} (c : Closed (a :: as) (x :: l) S) : Closed as l S := fun u v h e => c u v h e.cons

/-- a closed lot is worth just what the flow brings over it -/
theorem closed_cut {S : Nat → Bool} : ∀ {as : List Arc} {l : List Int}, Borne as l → Closed as l S → cutw as S = some (outw as l S) ∧ inw as l S = 0
  | _, _, .nil, _ => ⟨rfl, rfl⟩
  | _, _, .cons (a := a) (x := x) (as := as) (l := l) h0 hm hr, c => by
    obtain ⟨h1, h2⟩ := closed_cut hr c.tail
    have fo : S a.tl = true → S a.hd = false → a.mo = some x := fun p q => by
      cases hmo : a.mo with
      | none =>
        have : S a.hd = true := c a.tl a.hd p ⟨0, true, a, x, rfl, rfl, by simp [lft, hmo], rfl, rfl⟩
        rw [q] at this; cases this
      | some m =>
        by_cases e : m = x
        · rw [e]
        · have : S a.hd = true := c a.tl a.hd p ⟨0, true, a, x, rfl, rfl, by simp [lft, hmo]; omega, rfl, rfl⟩
          rw [q] at this; cases this
    have ba : S a.tl = false → S a.hd = true → x = 0 := fun p q => by
      by_cases e : x = 0
      · exact e
      · have : S a.tl = true := c a.hd a.tl q ⟨0, false, a, x, rfl, rfl, by simp [lft]; omega, rfl, rfl⟩
        rw [p] at this; cases this
    simp only [cutw, outw, inw, h1, h2]
    cases p : S a.tl <;> cases q : S a.hd
    · simp [one]
    · simp [one, ba p q]
    · simp [one, fo p q]
    · simp [one]
/-- and only a closed one is -/
theorem cut_closed {S : Nat → Bool} : ∀ {as : List Arc} {l : List Int}, Borne as l → cutw as S = some (outw as l S) → inw as l S = 0 → Closed as l S
  | _, _, .nil, _, _ => fun u v _ ⟨i, f, a, x, h, _⟩ => by simp at h
  | _, _, .cons (a := a) (x := x) (as := as) (l := l) h0 hm hr, hc, hi => by
    have key : cutw as S = some (outw as l S) ∧ inw as l S = 0 ∧ (S a.tl = true → S a.hd = false → a.mo = some x) ∧ (S a.tl = false → S a.hd = true → x = 0) := by
      have i0 := in_nonneg (S := S) hr
      simp only [cutw, outw, inw, one] at hc hi
      cases p : S a.tl <;> cases q : S a.hd <;> simp [p, q] at hc hi
      · exact ⟨hc, hi, by simp, by simp⟩
      · exact ⟨hc, by omega, by simp, by intros; omega⟩
      · cases hmo : a.mo with
        | none => rw [hmo] at hc; simp at hc
        | some m =>
          rw [hmo] at hc
          cases hw : cutw as S with
          | none => rw [hw] at hc; simp at hc
          | some r =>
            rw [hw] at hc
            have e : m + r = x + outw as l S := by simpa using hc
            have h1 := out_le hr hw
            have h2 := hm m hmo
            refine ⟨by congr 1; omega, hi, ?_, by simp⟩
            intros; congr 1; omega
      · exact ⟨hc, hi, by simp, by simp⟩
    obtain ⟨k1, k2, k3, k4⟩ := key
    have ih := cut_closed hr k1 k2
    intro u v hu ⟨i, f, b, y, e1, e2, e3, e4, e5⟩
    cases i with
    | succ i => exact ih u v hu ⟨i, f, b, y, by simpa using e1, by simpa using e2, e3, e4, e5⟩
    | zero =>
      simp at e1 e2; subst e1; subst e2
      cases f with
      | true =>
        simp at e4 e5; subst e4; subst e5
        cases q : S a.hd with
        | true => rfl
        | false => exact absurd (by simp [lft, k3 hu q]) e3
      | false =>
        simp at e4 e5; subst e4; subst e5
        cases q : S a.tl with
        | true => rfl
        | false => exact absurd (by simp [lft, k4 q hu]) e3

theorem closed_worth {n s t : Nat} {as : List Arc} {l : List Int} {S : Nat → Bool} (wf : Wf n as) (f : Flow n as s t l) (ht : t < n) (hs : S s = true) (hT : S t = false) (c : Closed as l S) : cutw as S = some (sur as l t) := by
  obtain ⟨h1, h2⟩ := closed_cut f.1 c
  rw [h1, flow_cut wf f ht hs hT, h2, Int.sub_zero]
theorem worth_closed {n s t : Nat} {as : List Arc} {l : List Int} {S : Nat → Bool} (wf : Wf n as) (f : Flow n as s t l) (ht : t < n) (hs : S s = true) (hT : S t = false) (h : cutw as S = some (sur as l t)) : Closed as l S := by
  have e := flow_cut wf f ht hs hT
  have h1 := out_le f.1 h
  have h2 := in_nonneg (S := S) f.1
  refine cut_closed f.1 ?_ (by omega)
  rw [h]; congr 1; omega
end FM
/-! the mathematics: walks, what is gone, the measure of the leading on. -/
namespace FM
/-! ### what is gone -/
def sgn (f : Bool) (m : Int) : Int := if f then m else -m
def gone1 (m : Int) (l : List Int) (p : Nat × Bool) : List Int := l.set p.1 (l.getD p.1 0 + sgn p.2 m)
def goneL (l : List Int) (st : List (Nat × Bool)) (m : Int) : List Int := st.foldl (gone1 m) l

theorem gone_len (m : Int) : ∀ (st : List (Nat × Bool)) (l : List Int), (goneL l st m).length = l.length
  | [], l => rfl
  | p :: st, l => by
    show (goneL (gone1 m l p) st m).length = _
    rw [gone_len m st]; simp [gone1]

/-- steps that are joined: from u to v -/
inductive Joined (as : List Arc) : Nat → List (Nat × Bool) → Nat → Prop where
  | nil {u : Nat} : Joined as u [] u
  | cons {u w v i : Nat} {f : Bool} {a : Arc} {st : List (Nat × Bool)} : as[i]? = some a → u = (if f then a.tl else a.hd) → w = (if f then a.hd else a.tl) → Joined as w st v → Joined as u ((i, f) :: st) v

theorem sur_set : ∀ {as : List Arc} {l : List Int} {i : Nat} {a : Arc} {x c : Int} {v : Nat}, as[i]? = some a → l[i]? = some x → sur as (l.set i (x + c)) v = sur as l v + (one (a.hd == v) c - one (a.tl == v) c)
  | [], _, i, a, x, c, v, h, _ => by simp at h
  | _ :: _, [], i, a, x, c, v, _, h => by simp at h
  | b :: as, y :: l, 0, a, x, c, v, h1, h2 => by
    simp at h1 h2; subst h1 h2
    simp only [List.set_cons_zero, sur, one]
    split <;> split <;> omega
  | b :: as, y :: l, i + 1, a, x, c, v, h1, h2 => by
    have ih := sur_set (as := as) (l := l) (i := i) (a := a) (x := x) (c := c) (v := v) (by simpa using h1) (by simpa using h2)
    simp only [List.set_cons_succ, sur, ih]; omega

theorem sur_gone {as : List Arc} {m : Int} {v : Nat} {u t : Nat} {st : List (Nat × Bool)} (j : Joined as u st t) : ∀ {l : List Int}, l.length = as.length →
    sur as (goneL l st m) v = sur as l v + (one (t == v) m - one (u == v) m) := by
  induction j with
  | nil =>
    intro l _
    show sur as l v = _
    omega
  | @cons u w t i f a st hi hu hw _ ih =>
    intro l hl
    have hlt : i < l.length := by
      have lt := (List.getElem?_eq_some_iff.mp hi).1
      omega
    have hx : l[i]? = some l[i] := List.getElem?_eq_getElem hlt
    show sur as (goneL (gone1 m l (i, f)) st m) v = _
    rw [ih (by simp [gone1, hl])]
    have e : gone1 m l (i, f) = l.set i (l[i] + sgn f m) := by
      simp [gone1, List.getD, hx]
    rw [e, sur_set hi hx]
    subst hu; subst hw
    cases f <;> simp [sgn, one] <;> split <;> split <;> split <;> omega

theorem gone_get (m : Int) : ∀ (st : List (Nat × Bool)) (l : List Int) (i : Nat), (st.map (·.1)).Nodup →
    (goneL l st m)[i]? = l[i]?.map fun x => x + (if (i, true) ∈ st then m else if (i, false) ∈ st then -m else 0)
  | [], l, i, _ => by simp [goneL]
  | (j, f) :: st, l, i, nd => by
    have nd' : j ∉ st.map (·.1) ∧ (st.map (·.1)).Nodup := by simpa using nd
    show (goneL (gone1 m l (j, f)) st m)[i]? = _
    rw [gone_get m st _ i nd'.2]
    by_cases e : i = j
    · subst e
      have n1 : ∀ g, (i, g) ∉ st := fun g hm => nd'.1 (List.mem_map.mpr ⟨(i, g), hm, rfl⟩)
      by_cases hl : i < l.length
      · have hx : l[i]? = some l[i] := List.getElem?_eq_getElem hl
        simp only [gone1, List.getElem?_set_self hl, hx, Option.map_some, n1, if_false, List.mem_cons, Prod.mk.injEq, true_and, or_false]
        cases f <;> simp [sgn, List.getD, hx]
      · have hx : l[i]? = none := List.getElem?_eq_none (by omega)
        have hy : (gone1 m l (i, f))[i]? = none := List.getElem?_eq_none (by simp [gone1]; omega)
        rw [hx, hy]; rfl
    · have hy : (gone1 m l (j, f))[i]? = l[i]? := List.getElem?_set_ne (Ne.symm e)
      rw [hy]
      simp [e]

theorem gone_borne {as : List Arc} {l : List Int} {st : List (Nat × Bool)} {m : Int} (b : Borne as l) (nd : (st.map (·.1)).Nodup) (h0 : 0 ≤ m)
    (hm : ∀ i f a x q, (i, f) ∈ st → as[i]? = some a → l[i]? = some x → lft a x f = some q → m ≤ q) : Borne as (goneL l st m) := by
  refine .of (by rw [gone_len, b.len]) fun i a y h1 h2 => ?_
  rw [gone_get m st l i nd] at h2
  cases hx : l[i]? with
  | none => rw [hx] at h2; cases h2
  | some x =>
    rw [hx] at h2
    have hb := b.get h1 hx
    have e : x + (if (i, true) ∈ st then m else if (i, false) ∈ st then -m else 0) = y := by simpa using h2
    by_cases c1 : (i, true) ∈ st
    · rw [if_pos c1] at e
      refine ⟨by omega, fun q hq => ?_⟩
      have := hm i true a x (q - x) c1 h1 hx (by simp [lft, hq])
      omega
    · rw [if_neg c1] at e
      by_cases c2 : (i, false) ∈ st
      · rw [if_pos c2] at e
        have := hm i false a x x c2 h1 hx (by simp [lft])
        refine ⟨by omega, fun q hq => ?_⟩
        have := hb.2 q hq
        omega
      · rw [if_neg c2] at e
        have : x = y := by omega
        subst this; exact hb
theorem gone_flow {n s t : Nat} {as : List Arc} {l : List Int} {st : List (Nat × Bool)} {m : Int} (f : Flow n as s t l) (j : Joined as s st t) (b : Borne as (goneL l st m)) : Flow n as s t (goneL l st m) := by
  refine ⟨b, fun v hv h1 h2 => ?_⟩
  rw [sur_gone j f.1.len, f.2 v hv h1 h2]
  have e1 : (t == v) = false := by simp; omega
  have e2 : (s == v) = false := by simp; omega
  simp [e1, e2, one]

/-! ### walks by levels -/
inductive DWalk (as : List Arc) (l : List Int) (dep : Nat → Nat) : Nat → List (Nat × Bool) → Nat → Prop where
  | nil {u : Nat} : DWalk as l dep u [] u
  | cons {u w v i : Nat} {f : Bool} {st : List (Nat × Bool)} : Res as l u w i f → dep w = dep u + 1 → DWalk as l dep w st v → DWalk as l dep u ((i, f) :: st) v
theorem Res.ends {as : List Arc} {l l' : List Int} {u v u' v' i : Nat} {f : Bool} (a : Res as l u v i f) (b : Res as l' u' v' i f) : u = u' ∧ v = v' := by
  obtain ⟨a, x, h1, h2, h3, h4, h5⟩ := a
  obtain ⟨b, y, k1, k2, k3, k4, k5⟩ := b
  rw [h1] at k1; cases k1
  exact ⟨h4.trans k4.symm, h5.trans k5.symm⟩
theorem Res.back {as : List Arc} {l l' : List Int} {u v u' v' i : Nat} {f : Bool} (a : Res as l u v i f) (b : Res as l' u' v' i (!f)) : u = v' ∧ v = u' := by
  obtain ⟨a, x, h1, h2, h3, h4, h5⟩ := a
  obtain ⟨b, y, k1, k2, k3, k4, k5⟩ := b
  rw [h1] at k1; cases k1
  cases f <;> simp at h4 h5 k4 k5 <;> exact ⟨h4.trans k5.symm, h5.trans k4.symm⟩
theorem DWalk.joined {as : List Arc} {l : List Int} {dep : Nat → Nat} {u v : Nat} {st : List (Nat × Bool)} (w : DWalk as l dep u st v) : Joined as u st v := by
  induction w with
  | nil => exact .nil
  | cons r _ _ ih =>
    obtain ⟨a, x, h1, h2, h3, h4, h5⟩ := r
    exact .cons h1 h4 h5 ih
theorem DWalk.top {as : List Arc} {l : List Int} {dep : Nat → Nat} {u v : Nat} {st : List (Nat × Bool)} (w : DWalk as l dep u st v) : dep u ≤ dep v := by
  induction w with
  | nil => exact Nat.le_refl _
  | cons _ _ _ ih => omega
theorem DWalk.each {as : List Arc} {l : List Int} {dep : Nat → Nat} {u v : Nat} {st : List (Nat × Bool)} (w : DWalk as l dep u st v) : ∀ i f, (i, f) ∈ st → ∃ a b, Res as l a b i f ∧ dep b = dep a + 1 ∧ dep u ≤ dep a ∧ dep b ≤ dep v := by
  induction w with
  | nil => intro i f h; cases h
  | @cons u w v i f st r d wt ih =>
    intro j g h
    have := wt.top
    obtain e | h := List.mem_cons.mp h
    · cases e
      exact ⟨_, _, r, d, Nat.le_refl _, this⟩
    · obtain ⟨a, b, h1, h2, h3, h4⟩ := ih j g h
      exact ⟨a, b, h1, h2, by omega, h4⟩
theorem DWalk.nodup {as : List Arc} {l : List Int} {dep : Nat → Nat} {u v : Nat} {st : List (Nat × Bool)} (w : DWalk as l dep u st v) : (st.map (·.1)).Nodup := by
  induction w with
  | nil => exact List.nodup_nil
  | @cons u w v i f st r d wt ih =>
    rw [List.map_cons]; rw [List.nodup_cons]
    refine ⟨fun h => ?_, ih⟩
    obtain ⟨⟨j, g⟩, hm, e⟩ := List.mem_map.mp h
    have e : j = i := e
    subst e
    obtain ⟨a, b, h1, h2, h3, h4⟩ := wt.each j g hm
    by_cases q : g = f
    · subst q
      obtain ⟨e1, e2⟩ := r.ends h1
      subst e1; omega
    · have q : g = !f := by cases f <;> cases g <;> simp at q ⊢
      subst q
      obtain ⟨e1, e2⟩ := r.back h1
      subst e1; subst e2; omega

/-- led on: no arc from the start or to the goal has less -/
theorem gone_ends {as : List Arc} {l : List Int} {dep : Nat → Nat} {s t : Nat} {st : List (Nat × Bool)} {m : Int} (w : DWalk as l dep s st t) (h0 : 0 ≤ m) (hs : dep s = 0) {i : Nat} {a : Arc} {x y : Int} (ha : as[i]? = some a)
    (he : a.tl = s ∨ a.hd = t) (hx : l[i]? = some x) (hy : (goneL l st m)[i]? = some y) : x ≤ y := by
  rw [gone_get m st l i w.nodup, hx] at hy
  have e : x + (if (i, true) ∈ st then m else if (i, false) ∈ st then -m else 0) = y := by simpa using hy
  by_cases c1 : (i, true) ∈ st
  · rw [if_pos c1] at e; omega
  · rw [if_neg c1] at e
    by_cases c2 : (i, false) ∈ st
    · obtain ⟨p, q, ⟨a', x', k1, k2, k3, k4, k5⟩, h2, h3, h4⟩ := w.each i false c2
      rw [ha] at k1; cases k1
      simp at k4 k5
      rcases he with he | he
      · rw [he] at k5; subst k5; omega
      · rw [he] at k4; subst k4; omega
    · rw [if_neg c2] at e; omega

/-! ### the measure -/
open Classical in
noncomputable def cnt (P : Nat → Prop) : Nat → Nat
  | 0 => 0
  | n + 1 => cnt P n + if P n then 1 else 0
theorem cnt_le {P Q : Nat → Prop} : ∀ {n}, (∀ v, v < n → P v → Q v) → cnt P n ≤ cnt Q n
  | 0, _ => Nat.le_refl _
  | n + 1, h => by
    have ih := cnt_le (P := P) (Q := Q) (n := n) fun v hv => h v (by omega)
    have := h n (by omega)
    simp only [cnt]
    by_cases p : P n
    · rw [if_pos p, if_pos (this p)]; omega
    · rw [if_neg p]; omega
theorem cnt_top (P : Nat → Prop) : ∀ n, cnt P n ≤ n
  | 0 => Nat.le_refl _
  | n + 1 => by
    have := cnt_top P n
    simp only [cnt]
    split <;> omega
theorem cnt_lt {P Q : Nat → Prop} : ∀ {n}, (∀ v, v < n → P v → Q v) → ∀ k, k < n → ¬ P k → Q k → cnt P n < cnt Q n
  | 0, _, k, hk, _, _ => by omega
  | n + 1, h, k, hk, p, q => by
    have h' : ∀ v, v < n → P v → Q v := fun v hv => h v (by omega)
    simp only [cnt]
    by_cases e : k = n
    · subst e
      have := cnt_le h'
      rw [if_neg p, if_pos q]; omega
    · have ih := cnt_lt h' k (by omega) p q
      have := h n (by omega)
      by_cases p' : P n
      · rw [if_pos p', if_pos (this p')]; omega
      · rw [if_neg p']; omega
/-- if the counts are alike, the two are -/
theorem cnt_eq {P Q : Nat → Prop} {n : Nat} (h : ∀ v, v < n → P v → Q v) (e : cnt Q n ≤ cnt P n) : ∀ v, v < n → Q v → P v := fun v hv q => by
  refine Classical.byContradiction fun p => ?_
  have := cnt_lt h v hv p q
  omega
noncomputable def cnt2 (P : Nat → Nat → Prop) (n : Nat) : Nat → Nat
  | 0 => 0
  | k + 1 => cnt2 P n k + cnt (P k) n
theorem cnt2_le {P Q : Nat → Nat → Prop} {n : Nat} : ∀ {m}, (∀ k v, k < m → v < n → P k v → Q k v) → cnt2 P n m ≤ cnt2 Q n m
  | 0, _ => Nat.le_refl _
  | m + 1, h => by
    have ih := cnt2_le (P := P) (Q := Q) (n := n) (m := m) fun k v hk => h k v (by omega)
    have := cnt_le (P := P m) (Q := Q m) (n := n) fun v hv => h m v (by omega) hv
    simp only [cnt2]; omega
theorem cnt2_eq {P Q : Nat → Nat → Prop} {n : Nat} : ∀ {m}, (∀ k v, k < m → v < n → P k v → Q k v) → cnt2 Q n m ≤ cnt2 P n m → ∀ k v, k < m → v < n → Q k v → P k v
  | 0, _, _, k, v, hk, _, _ => by omega
  | m + 1, h, e, k, v, hk, hv, q => by
    have h' : ∀ k v, k < m → v < n → P k v → Q k v := fun k v hk => h k v (by omega)
    have l1 := cnt2_le h'
    have l2 := cnt_le (P := P m) (Q := Q m) (n := n) fun v hv => h m v (by omega) hv
    simp only [cnt2] at e
    by_cases z : k = m
    · subst z
      exact cnt_eq (fun v hv => h k v (by omega) hv) (by omega) v hv q
    · exact cnt2_eq h' (by omega) k v (by omega) hv q

/-- to be come to in so many steps -/
def RN (as : List Arc) (l : List Int) (s : Nat) : Nat → Nat → Prop
  | 0, v => v = s
  | k + 1, v => RN as l s k v ∨ ∃ u, RN as l s k u ∧ Edge as l u v
theorem RN.mono {as : List Arc} {l : List Int} {s v k : Nat} (h : RN as l s k v) : ∀ {j}, k ≤ j → RN as l s j v := fun {j} hj => by
  induction j with
  | zero =>
    have : k = 0 := by omega
    subst this; exact h
  | succ j ih =>
    by_cases e : k = j + 1
    · subst e; exact h
    · exact .inl (ih (by omega))
theorem RN.reach {as : List Arc} {l : List Int} {s : Nat} : ∀ {k v}, RN as l s k v → Reach as l s v
  | 0, v, h => by
    have h : v = s := h
    subst h; exact .refl
  | k + 1, v, h => by
    rcases h with h | ⟨u, h, e⟩
    · exact h.reach
    · exact .step h.reach e
/-- the steps that lead a level on -/
def Adm (n : Nat) (as : List Arc) (l : List Int) (s i : Nat) (f : Bool) : Prop := ∃ u v, Res as l u v i f ∧ ∃ k, k < n ∧ u < n ∧ v < n ∧ RN as l s k u ∧ ¬ RN as l s k v
noncomputable def mu1 (n : Nat) (as : List Arc) (s : Nat) (l : List Int) : Nat := cnt2 (RN as l s) n n
noncomputable def mu2 (n : Nat) (as : List Arc) (s : Nat) (l : List Int) : Nat := cnt (fun i => Adm n as l s i true) as.length + cnt (fun i => Adm n as l s i false) as.length
noncomputable def mu (n : Nat) (as : List Arc) (s : Nat) (l : List Int) : Nat := mu1 n as s l * (2 * as.length + 1) + mu2 n as s l

/-- levels as a breadth-first search knows them -/
structure Lev (n : Nat) (as : List Arc) (l : List Int) (s : Nat) (key : Nat → Prop) (dep : Nat → Nat) : Prop where
  s0 : dep s = 0
  ks : key s
  lt : ∀ v, key v → v < n
  dl : ∀ v, key v → dep v < n
  par : ∀ v, key v → v ≠ s → ∃ u, key u ∧ Edge as l u v ∧ dep v = dep u + 1
  clo : ∀ u v, key u → Edge as l u v → key v ∧ dep v ≤ dep u + 1
section
variable {n : Nat} {as : List Arc} {l : List Int} {s : Nat} {key : Nat → Prop} {dep : Nat → Nat}
theorem Lev.of_rn (L : Lev n as l s key dep) : ∀ {k v}, RN as l s k v → key v ∧ dep v ≤ k
  | 0, v, h => by
    have h : v = s := h
    subst h; exact ⟨L.ks, by have := L.s0; omega⟩
  | k + 1, v, h => by
    rcases h with h | ⟨u, h, e⟩
    · have := L.of_rn h; exact ⟨this.1, by omega⟩
    · have := L.of_rn h
      have c := L.clo u v this.1 e
      exact ⟨c.1, by omega⟩
theorem Lev.rn (L : Lev n as l s key dep) : ∀ {k v}, key v → dep v = k → RN as l s k v
  | k, v, hv, e => by
    by_cases z : v = s
    · exact RN.mono (k := 0) z (Nat.zero_le _)
    · obtain ⟨u, h1, h2, h3⟩ := L.par v hv z
      cases k with
      | zero => omega
      | succ k => exact .inr ⟨u, L.rn h1 (by omega), h2⟩
theorem Lev.reach (L : Lev n as l s key dep) {v : Nat} : key v ↔ Reach as l s v := by
  constructor
  · exact fun h => (L.rn h rfl).reach
  · intro h
    induction h with
    | refl => exact L.ks
    | step _ e ih => exact (L.clo _ _ ih e).1
/-- gone by a walk of levels: what steps there are behind it -/
theorem gone_res {st : List (Nat × Bool)} {t : Nat} {m : Int} (w : DWalk as l dep s st t) {u v i : Nat} {f : Bool} (r : Res as (goneL l st m) u v i f) :
    Res as l u v i f ∨ (i, !f) ∈ st := by
  obtain ⟨a, y, h1, h2, h3, h4, h5⟩ := r
  rw [gone_get m st l i w.nodup] at h2
  cases hx : l[i]? with
  | none => rw [hx] at h2; cases h2
  | some x =>
    rw [hx] at h2
    have e : x + (if (i, true) ∈ st then m else if (i, false) ∈ st then -m else 0) = y := by simpa using h2
    have both : ¬ ((i, true) ∈ st ∧ (i, false) ∈ st) := fun ⟨p, q⟩ => by
      obtain ⟨a1, b1, r1, d1, _⟩ := w.each i true p
      obtain ⟨a2, b2, r2, d2, _⟩ := w.each i false q
      obtain ⟨e1, e2⟩ := r1.back r2
      subst e1; subst e2; omega
    by_cases old : lft a x f ≠ some 0
    · exact .inl ⟨a, x, h1, hx, old, h4, h5⟩
    · have old : lft a x f = some 0 := Classical.byContradiction old
      refine .inr ?_
      cases f with
      | true =>
        by_cases c2 : (i, false) ∈ st
        · exact c2
        · exfalso
          by_cases c1 : (i, true) ∈ st
          · obtain ⟨p, q, ⟨a', x', k1, k2, k3, _⟩, _⟩ := w.each i true c1
            rw [h1] at k1; cases k1
            rw [hx] at k2; cases k2
            exact k3 old
          · rw [if_neg c1, if_neg c2] at e
            have : x = y := by omega
            subst this; exact h3 old
      | false =>
        by_cases c1 : (i, true) ∈ st
        · exact c1
        · exfalso
          by_cases c2 : (i, false) ∈ st
          · obtain ⟨p, q, ⟨a', x', k1, k2, k3, _⟩, _⟩ := w.each i false c2
            rw [h1] at k1; cases k1
            rw [hx] at k2; cases k2
            exact k3 old
          · rw [if_neg c1, if_neg c2] at e
            have : x = y := by omega
            subst this; exact h3 old
theorem gone_rn (L : Lev n as l s key dep) {st : List (Nat × Bool)} {t : Nat} {m : Int} (w : DWalk as l dep s st t) : ∀ {k v}, RN as (goneL l st m) s k v → RN as l s k v
  | 0, v, h => h
  | k + 1, v, h => by
    rcases h with h | ⟨u, h, i, f, r⟩
    · exact .inl (gone_rn L w h)
    · have hu := gone_rn L w h
      rcases gone_res w r with q | q
      · exact .inr ⟨u, hu, i, f, q⟩
      · obtain ⟨a, b, r1, d1, _⟩ := w.each i (!f) q
        obtain ⟨e1, e2⟩ := r.back r1
        subst e1; subst e2
        -- the step led from v to u, a level on
        have ku := L.of_rn hu
        have kv : key v := by
          have : ∀ {p q st}, DWalk as l dep p st q → key p → ∀ i f, (i, f) ∈ st → ∀ a b, Res as l a b i f → key a := by
            intro p q st ww
            induction ww with
            | nil => intro _ i f h; cases h
            | @cons p x q j g st rr dd _ ih =>
              intro hp i f hm a b rab
              obtain e | hm := List.mem_cons.mp hm
              · cases e
                obtain ⟨e1, _⟩ := rr.ends rab
                subst e1; exact hp
              · exact ih (L.clo _ _ hp ⟨_, _, rr⟩).1 i f hm a b rab
          exact this w L.ks i (!f) q v u r1
        exact RN.mono (L.rn kv rfl) (by omega)
theorem mu_lt (wf : Wf n as) (L : Lev n as l s key dep) {st : List (Nat × Bool)} {t : Nat} {m : Int} (w : DWalk as l dep s st t) (hb : ∃ i f a x, (i, f) ∈ st ∧ as[i]? = some a ∧ l[i]? = some x ∧ lft a x f = some m) :
    mu n as s (goneL l st m) < mu n as s l := by
  have h1 : mu1 n as s (goneL l st m) ≤ mu1 n as s l := cnt2_le fun k v _ _ h => gone_rn L w h
  have top : mu2 n as s (goneL l st m) ≤ 2 * as.length := by
    have a1 := cnt_top (fun i => Adm n as (goneL l st m) s i true) as.length
    have a2 := cnt_top (fun i => Adm n as (goneL l st m) s i false) as.length
    unfold mu2; omega
  by_cases e : mu1 n as s (goneL l st m) < mu1 n as s l
  · unfold mu
    have : (mu1 n as s (goneL l st m) + 1) * (2 * as.length + 1) ≤ mu1 n as s l * (2 * as.length + 1) := Nat.mul_le_mul_right _ e
    rw [Nat.add_mul] at this
    omega
  · have same := cnt2_eq (P := RN as (goneL l st m) s) (Q := RN as l s) (n := n) (m := n) (fun k v _ _ h => gone_rn L w h) (by unfold mu1 at e; omega)
    have adm : ∀ i f, Adm n as (goneL l st m) s i f → Adm n as l s i f := fun i f ⟨u, v, r, k, hk, hu, hv, q1, q2⟩ => by
      have r1 := gone_rn L w q1
      have r2 : ¬ RN as l s k v := fun z => q2 (same k v hk hv z)
      rcases gone_res w r with q | q
      · exact ⟨u, v, q, k, hk, hu, hv, r1, r2⟩
      · exfalso
        obtain ⟨a, b, rr, d1, _⟩ := w.each i (!f) q
        obtain ⟨e1, e2⟩ := r.back rr
        subst e1; subst e2
        -- from v to u, a level on
        refine r2 ?_
        have ku := L.of_rn r1
        have kv : key v := by
          have : ∀ {p q st}, DWalk as l dep p st q → key p → ∀ i f, (i, f) ∈ st → ∀ a b, Res as l a b i f → key a := by
            intro p q st ww
            induction ww with
            | nil => intro _ i f h; cases h
            | @cons p x q j g st rr dd _ ih =>
              intro hp i f hm a b rab
              obtain e | hm := List.mem_cons.mp hm
              · cases e
                obtain ⟨e1, _⟩ := rr.ends rab
                subst e1; exact hp
              · exact ih (L.clo _ _ hp ⟨_, _, rr⟩).1 i f hm a b rab
          exact this w L.ks i (!f) q v u rr
        exact RN.mono (L.rn kv rfl) (by omega)
    obtain ⟨i, f, a, x, hm, ha, hx, hl⟩ := hb
    -- the step that had the least is gone for good
    have ⟨(hi : i < as.length), _⟩ := List.getElem?_eq_some_iff.mp ha
    have old : Adm n as l s i f := by
      obtain ⟨u, v, r, d, _, _⟩ := w.each i f hm
      have key_of : ∀ {p q st}, DWalk as l dep p st q → key p → ∀ i f, (i, f) ∈ st → ∀ a b, Res as l a b i f → key a ∧ key b := by
        intro p q st ww
        induction ww with
        | nil => intro _ i f h; cases h
        | @cons p x q j g st rr dd _ ih =>
          intro hp i f hm a b rab
          have kx := (L.clo _ _ hp ⟨_, _, rr⟩).1
          obtain e | hm := List.mem_cons.mp hm
          · cases e
            obtain ⟨e1, e2⟩ := rr.ends rab
            subst e1; subst e2; exact ⟨hp, kx⟩
          · exact ih kx i f hm a b rab
      obtain ⟨ku, kv⟩ := key_of w L.ks i f hm u v r
      refine ⟨u, v, r, dep u, L.dl u ku, L.lt u ku, L.lt v kv, L.rn ku rfl, fun z => ?_⟩
      have := (L.of_rn z).2
      omega
    have new : ¬ Adm n as (goneL l st m) s i f := fun ⟨u, v, ⟨a', y, k1, k2, k3, _⟩, _⟩ => by
      rw [ha] at k1; cases k1
      rw [gone_get m st l i w.nodup, hx] at k2
      have e : x + (if (i, true) ∈ st then m else if (i, false) ∈ st then -m else 0) = y := by simpa using k2
      cases f with
      | true =>
        rw [if_pos hm] at e
        apply k3
        unfold lft at hl ⊢
        simp only [if_true] at hl ⊢
        cases hmo : a.mo with
        | none => rw [hmo] at hl; cases hl
        | some q =>
          rw [hmo] at hl
          have : q - x = m := by simpa using hl
          simp only [Option.some.injEq]; omega
      | false =>
        have c1 : (i, true) ∉ st := fun z => by
          obtain ⟨a1, b1, r1, d1, _⟩ := w.each i true z
          obtain ⟨a2, b2, r2, d2, _⟩ := w.each i false hm
          obtain ⟨e1, e2⟩ := r1.back r2
          subst e1; subst e2; omega
        rw [if_neg c1, if_pos hm] at e
        apply k3
        have : x = m := by simpa [lft] using hl
        simp [lft]; omega
    have h2 : mu2 n as s (goneL l st m) < mu2 n as s l := by
      unfold mu2
      cases f with
      | true =>
        have a1 := cnt_lt (P := fun i => Adm n as (goneL l st m) s i true) (Q := fun i => Adm n as l s i true) (n := as.length) (fun v _ h => adm v true h) i hi new old
        have a2 := cnt_le (P := fun i => Adm n as (goneL l st m) s i false) (Q := fun i => Adm n as l s i false) (n := as.length) (fun v _ h => adm v false h)
        omega
      | false =>
        have a1 := cnt_lt (P := fun i => Adm n as (goneL l st m) s i false) (Q := fun i => Adm n as l s i false) (n := as.length) (fun v _ h => adm v false h) i hi new old
        have a2 := cnt_le (P := fun i => Adm n as (goneL l st m) s i true) (Q := fun i => Adm n as l s i true) (n := as.length) (fun v _ h => adm v true h)
        omega
    unfold mu
    have : mu1 n as s (goneL l st m) * (2 * as.length + 1) ≤ mu1 n as s l * (2 * as.length + 1) := Nat.mul_le_mul_right _ h1
    omega
end
end FM
/-! the mathematics: the search by breadth, the walk back, what is near, free arcs. -/
namespace FM
theorem nodup_lt_len : ∀ (n : Nat) (L : List Nat), L.Nodup → (∀ x ∈ L, x < n) → L.length ≤ n
  | 0, L, _, h => by
    cases L with
    | nil => exact Nat.le_refl _
    | cons x r => exact absurd (h x List.mem_cons_self) (by omega)
  | n + 1, L, nd, h => by
    by_cases hn : n ∈ L
    · have h1 : (L.erase n).length ≤ n := nodup_lt_len n (L.erase n) (nd.erase n) fun x hx => by
        have h2 := h x (List.mem_of_mem_erase hx)
        have h3 : x ≠ n := fun e => by
          subst e
          exact (List.Nodup.not_mem_erase nd) hx
        omega
      rw [List.length_erase_of_mem hn] at h1
      omega
    · have := nodup_lt_len n L nd fun x hx => by
        have h2 := h x hx
        have h3 : x ≠ n := fun e => by subst e; exact hn hx
        omega
      omega

/-! ### what leads on from a node -/
def leadsFrom : Nat → List Arc → Nat → List (Nat × Bool × Nat)
  | _, [], _ => []
  | k, a :: as, u => (if a.tl = u then [(k, true, a.hd)] else []) ++ (if a.hd = u then [(k, false, a.tl)] else []) ++ leadsFrom (k + 1) as u
theorem leads_snoc (a : Arc) (u : Nat) : ∀ (as : List Arc) (k : Nat), leadsFrom k (as ++ [a]) u = leadsFrom k as u ++ ((if a.tl = u then [(k + as.length, true, a.hd)] else []) ++ (if a.hd = u then [(k + as.length, false, a.tl)] else []))
  | [], k => by simp [leadsFrom]
  | b :: as, k => by
    have ih := leads_snoc a u as (k + 1)
    simp only [List.cons_append, leadsFrom, ih, List.length_cons, List.append_assoc]
    rw [show k + 1 + as.length = k + (as.length + 1) by omega]
theorem mem_leads {u v i : Nat} {f : Bool} : ∀ {as : List Arc} {k : Nat}, (i, f, v) ∈ leadsFrom k as u ↔ ∃ j a, i = k + j ∧ as[j]? = some a ∧ u = (if f then a.tl else a.hd) ∧ v = (if f then a.hd else a.tl)
  | [], k => by simp [leadsFrom]
  | b :: as, k => by
    have ih := mem_leads (u := u) (v := v) (i := i) (f := f) (as := as) (k := k + 1)
    simp only [leadsFrom, List.mem_append, ih]
    constructor
    · rintro ((h | h) | ⟨j, a, h1, h2, h3, h4⟩)
      · by_cases e : b.tl = u
        · rw [if_pos e] at h
          simp at h
          obtain ⟨h1, h2, h3⟩ := h
          subst h1; subst h2; subst h3
          exact ⟨0, b, by omega, rfl, by simp [e], by simp⟩
        · rw [if_neg e] at h; cases h
      · by_cases e : b.hd = u
        · rw [if_pos e] at h
          simp at h
          obtain ⟨h1, h2, h3⟩ := h
          subst h1; subst h2; subst h3
          exact ⟨0, b, by omega, rfl, by simp [e], by simp⟩
        · rw [if_neg e] at h; cases h
      · exact ⟨j + 1, a, by omega, by simpa using h2, h3, h4⟩
    · rintro ⟨j, a, h1, h2, h3, h4⟩
      cases j with
      | zero =>
        simp at h2; subst h2
        left
        cases f with
        | true =>
          simp at h3 h4
          left; rw [if_pos h3.symm]; simp [h1, h4]
        | false =>
          simp at h3 h4
          right; rw [if_pos h3.symm]; simp [h1, h4]
      | succ j => exact .inr ⟨j, a, by omega, by simpa using h2, h3, h4⟩
theorem res_leads {as : List Arc} {l : List Int} {u v i : Nat} {f : Bool} (r : Res as l u v i f) : (i, f, v) ∈ leadsFrom 0 as u := by
  obtain ⟨a, x, h1, _, _, h4, h5⟩ := r
  exact mem_leads.mpr ⟨i, a, by omega, h1, h4, h5⟩
theorem leads_lt {n : Nat} {as : List Arc} {u v i : Nat} {f : Bool} (wf : Wf n as) (h : (i, f, v) ∈ leadsFrom 0 as u) : v < n ∧ i < as.length := by
  obtain ⟨j, a, h1, h2, h3, h4⟩ := mem_leads.mp h
  have hm := List.mem_of_getElem? h2
  have := wf a hm
  have hj := (List.getElem?_eq_some_iff.mp h2).1
  refine ⟨?_, by omega⟩
  cases f <;> simp at h4 <;> subst h4 <;> first | exact this.1 | exact this.2.1

/-! ### the search -/
abbrev Fs := List (Nat × Option (Nat × Bool))
def keys (fs : Fs) : List Nat := fs.map (·.1)
structure BI (n : Nat) (as : List Arc) (l : List Int) (s : Nat) (dep : Nat → Nat) (fs : Fs) (h : Nat) (done : Nat → Bool → Nat → Prop) : Prop where
  nd : (keys fs).Nodup
  hd : fs[0]? = some (s, none)
  s0 : dep s = 0
  lt : ∀ v, v ∈ keys fs → v < n
  non : ∀ (k v : Nat), fs[k]? = some (v, none) → k = 0
  par : ∀ (k v i : Nat) (f : Bool), fs[k]? = some (v, some (i, f)) → ∃ (k' u : Nat) (o : Option (Nat × Bool)), k' < k ∧ fs[k']? = some (u, o) ∧ Res as l u v i f ∧ dep v = dep u + 1
  mono : ∀ (k k' : Nat) p q, k ≤ k' → fs[k]? = some p → fs[k']? = some q → dep p.1 ≤ dep q.1
  top : ∀ (k : Nat) p q, fs[k]? = some p → fs[h]? = some q → dep p.1 ≤ dep q.1 + 1
  clo : ∀ (k u : Nat) (o : Option (Nat × Bool)) (i : Nat) (f : Bool) (v : Nat), k < h → fs[k]? = some (u, o) → Res as l u v i f → v ∈ keys fs ∧ dep v ≤ dep u + 1
  cur : ∀ (u : Nat) (o : Option (Nat × Bool)) (i : Nat) (f : Bool) (v : Nat), fs[h]? = some (u, o) → done i f v → Res as l u v i f → v ∈ keys fs ∧ dep v ≤ dep u + 1
section
variable {n : Nat} {as : List Arc} {l : List Int} {s : Nat} {dep : Nat → Nat} {fs : Fs} {h : Nat} {done : Nat → Bool → Nat → Prop}
theorem mem_keys {k : Nat} {v : Nat} {o : Option (Nat × Bool)} (e : fs[k]? = some (v, o)) : v ∈ keys fs := List.mem_map.mpr ⟨(v, o), List.mem_of_getElem? e, rfl⟩
theorem BI.start (hs : s < n) : BI n as l s (fun _ => 0) [(s, none)] 0 (fun _ _ _ => False) where
  nd := by simp [keys]
  hd := rfl
  s0 := rfl
  lt := by intro v hv; simp [keys] at hv; omega
  non := by
    intro k v e
    cases k with
    | zero => rfl
    | succ k => simp at e
  par := by
    intro k v i f e
    cases k with
    | zero => simp at e
    | succ k => simp at e
  mono := fun _ _ _ _ _ _ _ => Nat.le_refl _
  top := fun _ _ _ _ _ => Nat.zero_le _
  clo := fun k _ _ _ _ _ hk => by omega
  cur := fun _ _ _ _ _ _ z => z.elim
theorem BI.weak {done' : Nat → Bool → Nat → Prop} (B : BI n as l s dep fs h done) (hd : ∀ u o i f v, fs[h]? = some (u, o) → done' i f v → Res as l u v i f → v ∈ keys fs ∧ dep v ≤ dep u + 1) : BI n as l s dep fs h done' :=
  ⟨B.nd, B.hd, B.s0, B.lt, B.non, B.par, B.mono, B.top, B.clo, hd⟩
theorem BI.top_key (B : BI n as l s dep fs h done) {u v : Nat} {o : Option (Nat × Bool)} (hu : fs[h]? = some (u, o)) (hv : v ∈ keys fs) : dep v ≤ dep u + 1 := by
  obtain ⟨p, hp, e⟩ := List.mem_map.mp hv
  obtain ⟨k, hk⟩ := List.getElem?_of_mem hp
  have := B.top k p (u, o) hk hu
  rw [e] at this
  exact this
theorem BI.skip (B : BI n as l s dep fs h done) {i₀ : Nat} {f₀ : Bool} {v₀ : Nat} (hn : ∀ u o, fs[h]? = some (u, o) → v₀ ∈ keys fs ∨ ¬ Res as l u v₀ i₀ f₀) :
    BI n as l s dep fs h (fun i f v => done i f v ∨ (i = i₀ ∧ f = f₀ ∧ v = v₀)) := by
  refine B.weak fun u o i f v hu hd r => ?_
  rcases hd with hd | ⟨rfl, rfl, rfl⟩
  · exact B.cur u o i f v hu hd r
  · rcases hn u o hu with hv | hv
    · exact ⟨hv, B.top_key hu hv⟩
    · exact absurd r hv
theorem BI.add (B : BI n as l s dep fs h done) {u i₀ v₀ : Nat} {f₀ : Bool} {o : Option (Nat × Bool)} (hu : fs[h]? = some (u, o)) (hv : v₀ ∉ keys fs) (hl : v₀ < n) (r : Res as l u v₀ i₀ f₀) :
    BI n as l s (fun x => if x = v₀ then dep u + 1 else dep x) (fs ++ [(v₀, some (i₀, f₀))]) h (fun i f v => done i f v ∨ (i = i₀ ∧ f = f₀ ∧ v = v₀)) := by
  have hlen : h < fs.length := (List.getElem?_eq_some_iff.mp hu).1
  have nk : ∀ {k : Nat} {p : Nat × Option (Nat × Bool)}, fs[k]? = some p → p.1 ≠ v₀ := fun {k p} e z => by
    subst z; exact hv (mem_keys (o := p.2) e)
  have nv : ∀ {x : Nat}, x ∈ keys fs → x ≠ v₀ := fun hx z => by subst z; exact hv hx
  have at_ : ∀ {k : Nat} {p : Nat × Option (Nat × Bool)}, (fs ++ [(v₀, some (i₀, f₀))])[k]? = some p → fs[k]? = some p ∨ (k = fs.length ∧ p = (v₀, some (i₀, f₀))) := fun {k p} e => by
    by_cases hk : k < fs.length
    · rw [List.getElem?_append_left hk] at e; exact .inl e
    · rw [List.getElem?_append_right (by omega)] at e
      have : k - fs.length = 0 := by
        cases hz : k - fs.length with
        | zero => rfl
        | succ j => rw [hz] at e; simp at e
      rw [this] at e
      simp at e
      exact .inr ⟨by omega, e.symm⟩
  have old : ∀ {k : Nat} {p : Nat × Option (Nat × Bool)}, fs[k]? = some p → (fs ++ [(v₀, some (i₀, f₀))])[k]? = some p := fun {k p} e => by
    rw [List.getElem?_append_left (List.getElem?_eq_some_iff.mp e).1]; exact e
  have ks : ∀ {x : Nat}, x ∈ keys fs → x ∈ keys (fs ++ [(v₀, some (i₀, f₀))]) := fun hx => by unfold keys at hx ⊢; rw [List.map_append]; exact List.mem_append_left _ hx
  have d_old : ∀ {x : Nat}, x ≠ v₀ → (if x = v₀ then dep u + 1 else dep x) = dep x := fun z => if_neg z
  have un : u ≠ v₀ := nk hu
  refine ⟨?_, old B.hd, ?_, ?_, ?_, ?_, ?_, ?_, ?_, ?_⟩
  · unfold keys
    rw [List.map_append]
    refine List.nodup_append.mpr ⟨B.nd, by simp, fun a ha b hb => ?_⟩
    simp at hb
    subst hb
    exact nv ha
  · show (if s = v₀ then dep u + 1 else dep s) = 0
    rw [d_old (nk B.hd)]; exact B.s0
  · intro v hv'
    unfold keys at hv'
    rw [List.map_append] at hv'
    rcases List.mem_append.mp hv' with q | q
    · exact B.lt v q
    · simp at q; subst q; exact hl
  · intro k v e
    rcases at_ e with q | ⟨_, q⟩
    · exact B.non k v q
    · cases q
  · intro k v i f e
    rcases at_ e with q | ⟨q1, q2⟩
    · obtain ⟨k', u', o', h1, h2, h3, h4⟩ := B.par k v i f q
      refine ⟨k', u', o', h1, old h2, h3, ?_⟩
      rw [d_old (nk q), d_old (nk h2)]; exact h4
    · cases q2
      refine ⟨h, u, o, by omega, old hu, r, ?_⟩
      rw [if_pos rfl, d_old un]
  · intro k k' p q hkk e1 e2
    rcases at_ e1 with a1 | ⟨b1, c1⟩ <;> rcases at_ e2 with a2 | ⟨b2, c2⟩
    · show (if p.1 = v₀ then _ else _) ≤ (if q.1 = v₀ then _ else _)
      rw [d_old (nk a1), d_old (nk a2)]; exact B.mono k k' p q hkk a1 a2
    · subst c2
      show (if p.1 = v₀ then _ else _) ≤ (if v₀ = v₀ then _ else _)
      rw [d_old (nk a1), if_pos rfl]; exact B.top k p (u, o) a1 hu
    · have := (List.getElem?_eq_some_iff.mp a2).1; omega
    · subst c1; subst c2; exact Nat.le_refl _
  · intro k p q e1 e2
    have e2' : fs[h]? = some q := by rw [List.getElem?_append_left hlen] at e2; exact e2
    have eq : q = (u, o) := by rw [hu] at e2'; exact (Option.some.inj e2').symm
    subst eq
    show (if p.1 = v₀ then _ else _) ≤ (if u = v₀ then _ else _) + 1
    rw [d_old un]
    rcases at_ e1 with a1 | ⟨b1, c1⟩
    · rw [d_old (nk a1)]; exact B.top k p (u, o) a1 hu
    · subst c1; rw [if_pos rfl]; exact Nat.le_refl _
  · intro k u' o' i f v hk e rr
    have e' : fs[k]? = some (u', o') := by rw [List.getElem?_append_left (by omega)] at e; exact e
    have := B.clo k u' o' i f v hk e' rr
    refine ⟨ks this.1, ?_⟩
    rw [d_old (nv this.1), d_old (nk e')]; exact this.2
  · intro u' o' i f v e hd rr
    have e' : fs[h]? = some (u', o') := by rw [List.getElem?_append_left hlen] at e; exact e
    have eq : (u', o') = (u, o) := by rw [hu] at e'; exact (Option.some.inj e').symm
    cases eq
    rcases hd with hd | ⟨rfl, rfl, rfl⟩
    · have := B.cur u o i f v hu hd rr
      refine ⟨ks this.1, ?_⟩
      rw [d_old (nv this.1), d_old un]; exact this.2
    · refine ⟨by unfold keys; rw [List.map_append]; exact List.mem_append_right _ (by simp), ?_⟩
      rw [if_pos rfl, d_old un]; exact Nat.le_refl _
theorem BI.next (B : BI n as l s dep fs h done) (hd : ∀ u o i f v, fs[h]? = some (u, o) → Res as l u v i f → done i f v) : BI n as l s dep fs (h + 1) (fun _ _ _ => False) := by
  refine ⟨B.nd, B.hd, B.s0, B.lt, B.non, B.par, B.mono, fun k p q e1 e2 => ?_, fun k u o i f v hk e r => ?_, fun _ _ _ _ _ _ z => z.elim⟩
  · have hlen := (List.getElem?_eq_some_iff.mp e2).1
    have e3 : fs[h]? = some fs[h] := List.getElem?_eq_getElem (by omega)
    have h1 := B.top k p _ e1 e3
    have h2 := B.mono h (h + 1) _ q (by omega) e3 e2
    omega
  · by_cases z : k = h
    · subst z; exact B.cur u o i f v e (hd u o i f v e r) r
    · exact B.clo k u o i f v (by omega) e r
theorem BI.depth (B : BI n as l s dep fs h done) : ∀ (k : Nat) (v : Nat) (o : Option (Nat × Bool)), fs[k]? = some (v, o) → dep v ≤ k := by
  intro k
  induction k using Nat.strongRecOn with
  | _ k ih =>
    intro v o e
    cases o with
    | none =>
      have := B.non k v e
      subst this
      rw [B.hd] at e
      cases e
      rw [B.s0]; exact Nat.le_refl _
    | some p =>
      obtain ⟨i, f⟩ := p
      obtain ⟨k', u, o', h1, h2, h3, h4⟩ := B.par k v i f e
      have := ih k' h1 u o' h2
      omega
theorem BI.length (B : BI n as l s dep fs h done) : fs.length ≤ n := by
  have := nodup_lt_len n (keys fs) B.nd B.lt
  simpa [keys] using this

/-- what the search tells -/
structure Bfs (n : Nat) (as : List Arc) (l : List Int) (s : Nat) (dep : Nat → Nat) (fs : Fs) : Prop where
  lev : Lev n as l s (· ∈ keys fs) dep
  nd : (keys fs).Nodup
  look : ∀ v o, (v, o) ∈ fs → (o = none → v = s) ∧ ∀ i f, o = some (i, f) → ∃ u, u ∈ keys fs ∧ Res as l u v i f ∧ dep v = dep u + 1
theorem BI.done_ (B : BI n as l s dep fs h done) (he : fs.length ≤ h) : Bfs n as l s dep fs := by
  have look : ∀ v o, (v, o) ∈ fs → (o = none → v = s) ∧ ∀ i f, o = some (i, f) → ∃ u, u ∈ keys fs ∧ Res as l u v i f ∧ dep v = dep u + 1 := fun v o hm => by
    obtain ⟨k, hk⟩ := List.getElem?_of_mem hm
    refine ⟨fun z => ?_, fun i f z => ?_⟩
    · subst z
      have := B.non k v hk
      subst this
      rw [B.hd] at hk
      cases hk; rfl
    · subst z
      obtain ⟨k', u, o', h1, h2, h3, h4⟩ := B.par k v i f hk
      exact ⟨u, mem_keys h2, h3, h4⟩
  refine ⟨⟨B.s0, mem_keys B.hd, B.lt, fun v hv => ?_, fun v hv hs => ?_, fun u v hu ⟨i, f, r⟩ => ?_⟩, B.nd, look⟩
  · obtain ⟨⟨w, o⟩, hp, e⟩ := List.mem_map.mp hv
    have e : w = v := e
    subst e
    obtain ⟨k, hk⟩ := List.getElem?_of_mem hp
    have h1 := B.depth k w o hk
    have h2 := (List.getElem?_eq_some_iff.mp hk).1
    have h3 := B.length
    omega
  · obtain ⟨⟨w, o⟩, hp, e⟩ := List.mem_map.mp hv
    have e : w = v := e
    subst e
    cases o with
    | none => exact absurd ((look w none hp).1 rfl) hs
    | some p =>
      obtain ⟨i, f⟩ := p
      obtain ⟨u, h1, h2, h3⟩ := (look w _ hp).2 i f rfl
      exact ⟨u, h1, ⟨i, f, h2⟩, h3⟩
  · obtain ⟨⟨w, o⟩, hp, e⟩ := List.mem_map.mp hu
    have e : w = u := e
    subst e
    obtain ⟨k, hk⟩ := List.getElem?_of_mem hp
    have h2 := (List.getElem?_eq_some_iff.mp hk).1
    exact B.clo k w o i f v (by omega) hk r
theorem Bfs.mem (B : Bfs n as l s dep fs) {v : Nat} : v ∈ keys fs ↔ Reach as l s v := B.lev.reach
end

/-! ### what is near: another search -/
structure NI (as : List Arc) (l : List Int) (s : Nat) (L : List Nat) (h at_ : Nat) : Prop where
  nd : L.Nodup
  hs : s ∈ L
  re : ∀ v ∈ L, Reach as l s v
  clo : ∀ (k u v : Nat), k < h → L[k]? = some u → Edge as l u v → v ∈ L
  cur : ∀ (u i : Nat) (f : Bool) (v : Nat), L[h]? = some u → i < at_ → Res as l u v i f → v ∈ L
theorem NI.start {as : List Arc} {l : List Int} {s : Nat} : NI as l s [s] 0 0 :=
  ⟨by simp, by simp, fun v hv => by simp at hv; subst hv; exact .refl, fun k _ _ hk => by omega, fun _ i _ _ _ hi => by omega⟩
theorem NI.more {as : List Arc} {l : List Int} {s : Nat} {L : List Nat} {h i : Nat} {v : Nat} (N : NI as l s L h i) (hv : v ∉ L) (r : Reach as l s v) (hl : h < L.length) : NI as l s (L ++ [v]) h i := by
  have mem : ∀ {x}, x ∈ L → x ∈ L ++ [v] := fun hx => List.mem_append_left _ hx
  refine ⟨List.nodup_append.mpr ⟨N.nd, by simp, fun a ha b hb => ?_⟩, mem N.hs, fun x hx => ?_, fun k u w hk e ed => ?_, fun u j f w e hj rr => ?_⟩
  · simp at hb; subst hb; intro z; subst z; exact hv ha
  · rcases List.mem_append.mp hx with q | q
    · exact N.re x q
    · simp at q; subst q; exact r
  · rw [List.getElem?_append_left (by omega)] at e
    exact mem (N.clo k u w hk e ed)
  · rw [List.getElem?_append_left hl] at e
    exact mem (N.cur u j f w e hj rr)
theorem NI.turn {as : List Arc} {l : List Int} {s : Nat} {L : List Nat} {h i : Nat} (N : NI as l s L h i) (hc : ∀ u f v, L[h]? = some u → Res as l u v i f → v ∈ L) : NI as l s L h (i + 1) :=
  ⟨N.nd, N.hs, N.re, N.clo, fun u j f v e hj r => by
    by_cases z : j = i
    · subst z; exact hc u f v e r
    · exact N.cur u j f v e (by omega) r⟩
theorem NI.next {as : List Arc} {l : List Int} {s : Nat} {L : List Nat} {h i : Nat} (N : NI as l s L h i) (hi : h < L.length → as.length ≤ i) : NI as l s L (h + 1) 0 :=
  ⟨N.nd, N.hs, N.re, fun k u v hk e ed => by
    by_cases z : k = h
    · subst z
      obtain ⟨j, f, r⟩ := ed
      refine N.cur u j f v e ?_ r
      have h1 := hi (List.getElem?_eq_some_iff.mp e).1
      obtain ⟨a, x, h2, _⟩ := r
      have := (List.getElem?_eq_some_iff.mp h2).1
      omega
    · exact N.clo k u v (by omega) e ed, fun _ j _ _ _ hj => by omega⟩
theorem Reach.lt {n : Nat} {as : List Arc} {l : List Int} {s v : Nat} (wf : Wf n as) (hs : s < n) (r : Reach as l s v) : v < n := by
  induction r with
  | refl => exact hs
  | step _ e _ =>
    obtain ⟨i, f, a, x, h1, _, _, _, h5⟩ := e
    have := wf a (List.mem_of_getElem? h1)
    subst h5
    cases f
    · exact this.1
    · exact this.2.1
theorem NI.done_ {n : Nat} {as : List Arc} {l : List Int} {s : Nat} {L : List Nat} (wf : Wf n as) (hs : s < n) (N : NI as l s L n 0) : ∀ v, v ∈ L ↔ Reach as l s v := fun v => by
  have hl := nodup_lt_len n L N.nd fun x hx => (N.re x hx).lt wf hs
  refine ⟨N.re v, fun r => ?_⟩
  induction r with
  | refl => exact N.hs
  | step _ e ih =>
    obtain ⟨k, hk⟩ := List.getElem?_of_mem ih
    have := (List.getElem?_eq_some_iff.mp hk).1
    exact N.clo k _ _ (by omega) hk e

/-! ### arcs without a bound -/
def free (as : List Arc) : List Arc := as.filter fun a => a.mo.isNone
def zeros (k : Nat) : List Int := List.replicate k 0
def FreeE (as : List Arc) (u v : Nat) : Prop := ∃ a ∈ as, a.mo = none ∧ u = a.tl ∧ v = a.hd
inductive FreeR (as : List Arc) (s : Nat) : Nat → Prop where
  | refl : FreeR as s s
  | step {u v : Nat} : FreeR as s u → FreeE as u v → FreeR as s v
theorem zeros_get {k i : Nat} {x : Int} (h : (zeros k)[i]? = some x) : x = 0 := by
  unfold zeros at h
  rw [List.getElem?_replicate] at h
  split at h
  · exact (Option.some.inj h).symm
  · cases h
theorem free_edge {as : List Arc} {u v : Nat} : Edge (free as) (zeros (free as).length) u v ↔ FreeE as u v := by
  constructor
  · rintro ⟨i, f, a, x, h1, h2, h3, h4, h5⟩
    have hx := zeros_get h2
    subst hx
    have hm := List.mem_of_getElem? h1
    have hm' := List.mem_filter.mp hm
    have hmo : a.mo = none := by simpa using hm'.2
    cases f with
    | true => exact ⟨a, hm'.1, hmo, by simpa using h4, by simpa using h5⟩
    | false => exact absurd (by simp [lft]) h3
  · rintro ⟨a, h1, h2, h3, h4⟩
    have hm : a ∈ free as := List.mem_filter.mpr ⟨h1, by simp [h2]⟩
    obtain ⟨i, hi⟩ := List.getElem?_of_mem hm
    have hlt := (List.getElem?_eq_some_iff.mp hi).1
    exact ⟨i, true, a, 0, hi, by simp [zeros, hlt], by simp [lft, h2], by simpa using h3, by simpa using h4⟩
theorem free_reach {as : List Arc} {s v : Nat} : Reach (free as) (zeros (free as).length) s v ↔ FreeR as s v := by
  constructor
  · intro h
    induction h with
    | refl => exact .refl
    | step _ e ih => exact .step ih (free_edge.mp e)
  · intro h
    induction h with
    | refl => exact .refl
    | step _ e ih => exact .step ih (free_edge.mpr e)
theorem FreeE.edge {as : List Arc} {l : List Int} {u v : Nat} (hl : l.length = as.length) (e : FreeE as u v) : Edge as l u v := by
  obtain ⟨a, h1, h2, h3, h4⟩ := e
  obtain ⟨i, hi⟩ := List.getElem?_of_mem h1
  have hlt := (List.getElem?_eq_some_iff.mp hi).1
  exact ⟨i, true, a, l[i]'(by omega), hi, List.getElem?_eq_getElem (by omega), by simp [lft, h2], by simpa using h3, by simpa using h4⟩
theorem FreeR.reach {as : List Arc} {l : List Int} {s v : Nat} (hl : l.length = as.length) (r : FreeR as s v) : Reach as l s v := by
  induction r with
  | refl => exact .refl
  | step _ e ih => exact .step ih (e.edge hl)
theorem cutw_none {a : Arc} {S : Nat → Bool} : ∀ {as : List Arc}, a ∈ as → a.mo = none → S a.tl = true → S a.hd = false → cutw as S = none
  | b :: as, h, h1, h2, h3 => by
    simp only [cutw]
    obtain e | h := List.mem_cons.mp h
    · subst e
      rw [if_pos (by simp [h2, h3]), h1]
    · have ih := cutw_none h h1 h2 h3
      rw [ih]
      split
      · cases b.mo <;> rfl
      · rfl
theorem FreeR.none {as : List Arc} {s t : Nat} {S : Nat → Bool} (r : FreeR as s t) (hs : S s = true) (ht : S t = false) : cutw as S = none := by
  have key : ∀ v, FreeR as s v → S v = true ∨ ∃ a ∈ as, a.mo = Option.none ∧ S a.tl = true ∧ S a.hd = false := by
    intro v r
    induction r with
    | refl => exact .inl hs
    | @step u v _ e ih =>
      rcases ih with ih | ih
      · obtain ⟨a, h1, h2, h3, h4⟩ := e
        subst h3; subst h4
        cases q : S a.hd with
        | true => exact .inl rfl
        | false => exact .inr ⟨a, h1, h2, ih, q⟩
      · exact .inr ih
  rcases key t r with q | ⟨a, h1, h2, h3, h4⟩
  · rw [ht] at q; cases q
  · exact cutw_none h1 h2 h3 h4
/-- a walk whose steps have no bound -/
theorem DWalk.free {as : List Arc} {l : List Int} {dep : Nat → Nat} {u v s : Nat} {st : List (Nat × Bool)} (w : DWalk as l dep u st v) (hs : FreeR as s u)
    (h : ∀ i f a x, (i, f) ∈ st → as[i]? = some a → l[i]? = some x → lft a x f = Option.none) : FreeR as s v := by
  induction w with
  | nil => exact hs
  | @cons u w v i f st r _ _ ih =>
    obtain ⟨a, x, h1, h2, h3, h4, h5⟩ := r
    refine ih (.step hs ⟨a, List.mem_of_getElem? h1, ?_⟩) fun j g b y hm => h j g b y (List.mem_cons_of_mem _ hm)
    have hn := h i f a x List.mem_cons_self h1 h2
    cases f with
    | true =>
      refine ⟨?_, by simpa using h4, by simpa using h5⟩
      unfold lft at hn
      simp only [if_true] at hn
      cases hmo : a.mo with
      | none => rfl
      | some m => rw [hmo] at hn; cases hn
    | false => simp [lft] at hn

/-! ### nets turned -/
def turn (as : List Arc) : List Arc := as.map fun a => ⟨a.hd, a.tl, a.mo⟩
theorem turn_res {as : List Arc} {l : List Int} {u v i : Nat} {f : Bool} : Res (turn as) l u v i f ↔ Res as l v u i f := by
  unfold Res turn
  constructor
  · rintro ⟨a, x, h1, h2, h3, h4, h5⟩
    rw [List.getElem?_map] at h1
    obtain ⟨b, hb, e⟩ := Option.map_eq_some_iff.mp h1
    subst e
    refine ⟨b, x, hb, h2, ?_, ?_, ?_⟩
    · simpa [lft] using h3
    · cases f <;> simpa using h5
    · cases f <;> simpa using h4
  · rintro ⟨b, x, h1, h2, h3, h4, h5⟩
    refine ⟨⟨b.hd, b.tl, b.mo⟩, x, by rw [List.getElem?_map, h1]; rfl, h2, by simpa [lft] using h3, ?_, ?_⟩
    · cases f <;> simpa using h5
    · cases f <;> simpa using h4
theorem turn_wf {n : Nat} {as : List Arc} (wf : Wf n as) : Wf n (turn as) := fun a ha => by
  obtain ⟨b, hb, e⟩ := List.mem_map.mp ha
  subst e
  have := wf b hb
  exact ⟨this.2.1, this.1, this.2.2⟩
/-- from where a walk leads to t -/
def Late (as : List Arc) (l : List Int) (t v : Nat) : Prop := Reach (turn as) l t v
theorem Late.refl {as : List Arc} {l : List Int} {t : Nat} : Late as l t t := Reach.refl
theorem Late.step {as : List Arc} {l : List Int} {t u v : Nat} (h : Late as l t v) (e : Edge as l u v) : Late as l t u := by
  obtain ⟨i, f, r⟩ := e
  exact Reach.step h ⟨i, f, turn_res.mpr r⟩
/-- a closed lot without t holds none of those -/
theorem Late.out {as : List Arc} {l : List Int} {t v : Nat} {S : Nat → Bool} (c : Closed as l S) (ht : S t = false) (h : Late as l t v) : S v = false := by
  unfold Late at h
  induction h with
  | refl => exact ht
  | @step u v _ e ih =>
    obtain ⟨i, f, r⟩ := e
    cases q : S v with
    | false => rfl
    | true =>
      have := c v u q ⟨i, f, turn_res.mp r⟩
      rw [ih] at this; cases this
theorem Late.reach {as : List Arc} {l : List Int} {s t : Nat} (h : Late as l t s) : Reach as l s t := by
  have key : ∀ v, Late as l t v → ∀ w, Reach as l w v → Reach as l w t := by
    intro v h
    unfold Late at h
    induction h with
    | refl => exact fun w r => r
    | @step u v _ e ih =>
      obtain ⟨i, f, r⟩ := e
      exact fun w rw' => ih w (.step rw' ⟨i, f, turn_res.mp r⟩)
  exact key s h s .refl
end FM
/-! the mathematics: all lots, the least worth, the least and the greatest lot; flows drawn. -/
namespace FM
def asc (n : Nat) (S : Nat → Bool) : List Nat := (List.range n).filter S
theorem mem_asc {n : Nat} {S : Nat → Bool} {v : Nat} : v ∈ asc n S ↔ v < n ∧ S v = true := by
  unfold asc; rw [List.mem_filter, List.mem_range]
theorem asc_succ (k : Nat) (S : Nat → Bool) : asc (k + 1) S = if S k then asc k S ++ [k] else asc k S := by
  unfold asc
  rw [List.range_succ, List.filter_append, List.filter_cons]
  cases S k <;> simp
theorem asc_congr {n : Nat} {S S' : Nat → Bool} (h : ∀ v, v < n → S v = S' v) : asc n S = asc n S' := by
  unfold asc
  exact List.filter_congr fun v hv => h v (List.mem_range.mp hv)
def lots (s : Nat) (ends : List Nat) : Nat → List (List Nat)
  | 0 => [[]]
  | k + 1 => (if k = s then [] else lots s ends k) ++ (if k ∈ ends then [] else (lots s ends k).map (· ++ [k]))
theorem mem_lots {s : Nat} {ends : List Nat} : ∀ {k : Nat} {L : List Nat}, L ∈ lots s ends k ↔ ∃ S : Nat → Bool, (∀ v, v < k → v = s → S v = true) ∧ (∀ v, v < k → v ∈ ends → S v = false) ∧ L = asc k S
  | 0, L => by
    simp only [lots, List.mem_singleton]
    constructor
    · intro h; exact ⟨fun _ => true, fun v hv => by omega, fun v hv => by omega, h⟩
    · rintro ⟨S, _, _, h⟩; rw [h]; rfl
  | k + 1, L => by
    have ih := fun L => mem_lots (s := s) (ends := ends) (k := k) (L := L)
    simp only [lots, List.mem_append]
    constructor
    · rintro (h | h)
      · by_cases e : k = s
        · rw [if_pos e] at h; cases h
        · rw [if_neg e] at h
          obtain ⟨S, h1, h2, h3⟩ := (ih L).mp h
          refine ⟨fun v => if v = k then false else S v, fun v hv q => ?_, fun v hv q => ?_, ?_⟩
          · show (if v = k then false else S v) = true
            rw [if_neg (by omega)]; exact h1 v (by omega) q
          · show (if v = k then false else S v) = false
            by_cases z : v = k
            · rw [if_pos z]
            · rw [if_neg z]; exact h2 v (by omega) q
          · rw [asc_succ, if_neg (by simp), h3]
            exact asc_congr fun v hv => by rw [if_neg (by omega)]
      · by_cases e : k ∈ ends
        · rw [if_pos e] at h; cases h
        · rw [if_neg e] at h
          obtain ⟨L', hL', rfl⟩ := List.mem_map.mp h
          obtain ⟨S, h1, h2, h3⟩ := (ih L').mp hL'
          refine ⟨fun v => if v = k then true else S v, fun v hv q => ?_, fun v hv q => ?_, ?_⟩
          · show (if v = k then true else S v) = true
            by_cases z : v = k
            · rw [if_pos z]
            · rw [if_neg z]; exact h1 v (by omega) q
          · have z : v ≠ k := fun z => by subst z; exact e q
            show (if v = k then true else S v) = false
            rw [if_neg z]; exact h2 v (by omega) q
          · rw [asc_succ, if_pos (by simp), h3]
            congr 1
            exact asc_congr fun v hv => by rw [if_neg (by omega)]
    · rintro ⟨S, h1, h2, h3⟩
      rw [asc_succ] at h3
      cases q : S k with
      | false =>
        left
        rw [q] at h3
        have e : k ≠ s := fun e => by rw [h1 k (by omega) e] at q; cases q
        rw [if_neg e]
        exact (ih L).mpr ⟨S, fun v hv => h1 v (by omega), fun v hv => h2 v (by omega), by simpa using h3⟩
      | true =>
        right
        rw [q] at h3
        have e : k ∉ ends := fun e => by rw [h2 k (by omega) e] at q; cases q
        rw [if_neg e]
        exact List.mem_map.mpr ⟨asc k S, (ih _).mpr ⟨S, fun v hv => h1 v (by omega), fun v hv => h2 v (by omega), rfl⟩, by simpa using h3.symm⟩

def memL (L : List Nat) (v : Nat) : Bool := decide (v ∈ L)
theorem cutw_congr {S S' : Nat → Bool} : ∀ {as : List Arc}, (∀ a ∈ as, S a.tl = S' a.tl ∧ S a.hd = S' a.hd) → cutw as S = cutw as S'
  | [], _ => rfl
  | a :: as, h => by
    have ih := cutw_congr (as := as) fun b hb => h b (List.mem_cons_of_mem _ hb)
    have := h a List.mem_cons_self
    simp only [cutw, ih, this.1, this.2]
theorem memL_asc {n : Nat} {S : Nat → Bool} {v : Nat} (hv : v < n) : memL (asc n S) v = S v := by
  unfold memL
  cases q : S v with
  | true => exact decide_eq_true (mem_asc.mpr ⟨hv, q⟩)
  | false => exact decide_eq_false fun h => by rw [(mem_asc.mp h).2] at q; cases q
theorem cutw_asc {n : Nat} {as : List Arc} {S : Nat → Bool} (wf : Wf n as) : cutw as (memL (asc n S)) = cutw as S :=
  cutw_congr fun a ha => ⟨memL_asc (wf a ha).1, memL_asc (wf a ha).2.1⟩

/-- a greatest flow, told -/
structure Best (n : Nat) (as : List Arc) (s t : Nat) (l : List Int) : Prop where
  wf : Wf n as
  sn : s < n
  tn : t < n
  ne : s ≠ t
  flow : Flow n as s t l
  no : ¬ Reach as l s t
open Classical in
noncomputable def rset (as : List Arc) (l : List Int) (s : Nat) (v : Nat) : Bool := decide (Reach as l s v)
open Classical in
theorem rset_iff {as : List Arc} {l : List Int} {s v : Nat} : rset as l s v = true ↔ Reach as l s v := by unfold rset; exact decide_eq_true_iff
open Classical in
noncomputable def lset (as : List Arc) (l : List Int) (t : Nat) (v : Nat) : Bool := decide (¬ Late as l t v)
open Classical in
theorem lset_iff {as : List Arc} {l : List Int} {t v : Nat} : lset as l t v = true ↔ ¬ Late as l t v := by unfold lset; exact decide_eq_true_iff
section
variable {n s t : Nat} {as : List Arc} {l : List Int}
theorem rset_closed : Closed as l (rset as l s) := fun u v h e => rset_iff.mpr (.step (rset_iff.mp h) e)
theorem lset_closed : Closed as l (lset as l t) := fun u v h e => lset_iff.mpr fun z => lset_iff.mp h (z.step e)
theorem Best.r_s (B : Best n as s t l) : rset as l s s = true := rset_iff.mpr .refl
theorem Best.r_t (B : Best n as s t l) : rset as l s t = false := by
  cases q : rset as l s t with
  | false => rfl
  | true => exact absurd (rset_iff.mp q) B.no
theorem Best.l_s (B : Best n as s t l) : lset as l t s = true := lset_iff.mpr fun z => B.no z.reach
theorem Best.l_t (B : Best n as s t l) : lset as l t t = false := by
  cases q : lset as l t t with
  | false => rfl
  | true => exact absurd Late.refl (lset_iff.mp q)
theorem Best.cut (B : Best n as s t l) : cutw as (rset as l s) = some (sur as l t) := closed_worth B.wf B.flow B.tn B.r_s B.r_t rset_closed
theorem Best.cutL (B : Best n as s t l) : cutw as (lset as l t) = some (sur as l t) := closed_worth B.wf B.flow B.tn B.l_s B.l_t lset_closed
theorem Best.least (B : Best n as s t l) {S : Nat → Bool} {c : Int} (hs : S s = true) (ht : S t = false) (h : cutw as S = some c) : sur as l t ≤ c := weak B.wf B.flow B.tn hs ht h
theorem Best.not_free (B : Best n as s t l) : ¬ FreeR as s t := fun z => B.no (z.reach B.flow.1.len)
/-- a flow is a greatest one just if no walk is left -/
theorem Best.walk (B : Best n as s t l) {g : List Int} (f : Flow n as s t g) : ¬ Reach as g s t ↔ sur as g t = sur as l t := by
  constructor
  · intro h
    have B' : Best n as s t g := ⟨B.wf, B.sn, B.tn, B.ne, f, h⟩
    have h1 := B.least B'.r_s B'.r_t B'.cut
    have h2 := B'.least B.r_s B.r_t B.cut
    omega
  · intro h r
    have c := worth_closed B.wf f B.tn B.r_s B.r_t (by rw [h]; exact B.cut)
    have := r.in c B.r_s
    rw [B.r_t] at this; cases this
/-- a lot of that worth is closed -/
theorem Best.closed (B : Best n as s t l) {S : Nat → Bool} (hs : S s = true) (ht : S t = false) (h : cutw as S = some (sur as l t)) : Closed as l S := worth_closed B.wf B.flow B.tn hs ht h
end

/-! ### the law's lots -/
/-- the lots with their worths -/
def law_lots (n s : Nat) (ends : List Nat) (as : List Arc) : List (Option Int × List Nat) := (lots s ends n).map fun L => (cutw as (memL L), L)
/-- the least worth of some -/
def IsBest (ws : List (Option Int)) (b : Option Int) : Prop := match b with
  | none => ∀ w ∈ ws, w = none
  | some m => some m ∈ ws ∧ ∀ x, some x ∈ ws → m ≤ x
theorem IsBest.uniq {ws : List (Option Int)} {b c : Option Int} (h : IsBest ws b) (k : IsBest ws c) : b = c := by
  cases b with
  | none =>
    cases c with
    | none => rfl
    | some m => have := h _ k.1; cases this
  | some m =>
    cases c with
    | none => have := k _ h.1; cases this
    | some q =>
      have h1 := h.2 q k.1
      have h2 := k.2 m h.1
      congr 1; omega
section
variable {n s t : Nat} {as : List Arc} {l : List Int}
theorem lot_S {L : List Nat} (h : L ∈ lots s [t] n) (hs : s < n) (ht : t < n) : ∃ S : Nat → Bool, S s = true ∧ S t = false ∧ L = asc n S := by
  obtain ⟨S, h1, h2, h3⟩ := mem_lots.mp h
  exact ⟨S, h1 s hs rfl, h2 t ht (by simp), h3⟩
theorem lot_of {S : Nat → Bool} (hs : S s = true) (ht : S t = false) : asc n S ∈ lots s [t] n :=
  mem_lots.mpr ⟨S, fun v _ e => by rw [e]; exact hs, fun v _ e => by simp at e; rw [e]; exact ht, rfl⟩
theorem Best.isBest (B : Best n as s t l) : IsBest ((law_lots n s [t] as).map (·.1)) (some (sur as l t)) := by
  constructor
  · refine List.mem_map.mpr ⟨(some (sur as l t), asc n (rset as l s)), List.mem_map.mpr ⟨asc n (rset as l s), lot_of B.r_s B.r_t, ?_⟩, rfl⟩
    rw [cutw_asc B.wf, B.cut]
  · intro x hx
    obtain ⟨p, hp, e⟩ := List.mem_map.mp hx
    obtain ⟨L, hL, rfl⟩ := List.mem_map.mp hp
    obtain ⟨S, h1, h2, rfl⟩ := lot_S hL B.sn B.tn
    have e : cutw as (memL (asc n S)) = some x := e
    rw [cutw_asc B.wf] at e
    exact B.least h1 h2 e
theorem free_isBest (wf : Wf n as) (hs : s < n) (ht : t < n) (r : FreeR as s t) : IsBest ((law_lots n s [t] as).map (·.1)) none := by
  intro w hw
  obtain ⟨p, hp, rfl⟩ := List.mem_map.mp hw
  obtain ⟨L, hL, rfl⟩ := List.mem_map.mp hp
  obtain ⟨S, h1, h2, rfl⟩ := lot_S hL hs ht
  show cutw as (memL (asc n S)) = none
  rw [cutw_asc wf]
  exact r.none h1 h2
/-- the lots of the least worth -/
def bestLots (n s t : Nat) (as : List Arc) (w : Int) : List (List Nat) := (lots s [t] n).filter fun L => decide (cutw as (memL L) = some w)
theorem mem_bestLots {L : List Nat} {w : Int} : L ∈ bestLots n s t as w ↔ L ∈ lots s [t] n ∧ cutw as (memL L) = some w := by
  unfold bestLots; rw [List.mem_filter]; simp
theorem Best.in_all (B : Best n as s t l) {v : Nat} (hv : v < n) : (∀ L ∈ bestLots n s t as (sur as l t), v ∈ L) ↔ rset as l s v = true := by
  constructor
  · intro h
    have hm : asc n (rset as l s) ∈ bestLots n s t as (sur as l t) := mem_bestLots.mpr ⟨lot_of B.r_s B.r_t, by rw [cutw_asc B.wf, B.cut]⟩
    exact (mem_asc.mp (h _ hm)).2
  · intro h L hL
    obtain ⟨h1, h2⟩ := mem_bestLots.mp hL
    obtain ⟨S, k1, k2, rfl⟩ := lot_S h1 B.sn B.tn
    rw [cutw_asc B.wf] at h2
    exact mem_asc.mpr ⟨hv, (rset_iff.mp h).in (B.closed k1 k2 h2) k1⟩
theorem Best.in_some (B : Best n as s t l) {v : Nat} (hv : v < n) : (∃ L ∈ bestLots n s t as (sur as l t), v ∈ L) ↔ lset as l t v = true := by
  constructor
  · rintro ⟨L, hL, hvL⟩
    obtain ⟨h1, h2⟩ := mem_bestLots.mp hL
    obtain ⟨S, k1, k2, rfl⟩ := lot_S h1 B.sn B.tn
    rw [cutw_asc B.wf] at h2
    refine lset_iff.mpr fun z => ?_
    have := z.out (B.closed k1 k2 h2) k2
    rw [(mem_asc.mp hvL).2] at this; cases this
  · intro h
    refine ⟨asc n (lset as l t), mem_bestLots.mpr ⟨lot_of B.l_s B.l_t, by rw [cutw_asc B.wf, B.cutL]⟩, mem_asc.mpr ⟨hv, h⟩⟩
end

/-! ### the walk back, the least that is left -/
theorem DWalk.back_step {as : List Arc} {l : List Int} {dep : Nat → Nat} {u w v i : Nat} {f : Bool} {acc : List (Nat × Bool)} (r : Res as l u w i f) (d : dep w = dep u + 1) (h : DWalk as l dep w acc.reverse v) : DWalk as l dep u (acc ++ [(i, f)]).reverse v := by
  rw [List.reverse_append]
  exact .cons r d h
/-- how often some steps can be gone, told -/
def Least (as : List Arc) (l : List Int) (st : List (Nat × Bool)) : Option Int → Prop
  | none => ∀ i f a x, (i, f) ∈ st → as[i]? = some a → l[i]? = some x → lft a x f = none
  | some m => (∃ i f a x, (i, f) ∈ st ∧ as[i]? = some a ∧ l[i]? = some x ∧ lft a x f = some m) ∧ ∀ i f a x q, (i, f) ∈ st → as[i]? = some a → l[i]? = some x → lft a x f = some q → m ≤ q
theorem lft_nonneg {a : Arc} {x q : Int} {f : Bool} (h0 : 0 ≤ x) (hm : ∀ m, a.mo = some m → x ≤ m) (h : lft a x f = some q) : 0 ≤ q := by
  unfold lft at h
  cases f with
  | true =>
    simp only [if_true] at h
    cases hmo : a.mo with
    | none => rw [hmo] at h; cases h
    | some m =>
      rw [hmo] at h
      have := hm m hmo
      have : m - x = q := by simpa using h
      omega
  | false =>
    have : x = q := by simpa using h
    omega
/-- no arc from s or to t has less than in l₀ -/
def Keeps (as : List Arc) (s t : Nat) (l₀ l : List Int) : Prop := ∀ (i : Nat) (a : Arc) (x y : Int), as[i]? = some a → (a.tl = s ∨ a.hd = t) → l₀[i]? = some x → l[i]? = some y → x ≤ y
theorem Keeps.refl {as : List Arc} {s t : Nat} {l : List Int} : Keeps as s t l l := fun i a x y _ _ h1 h2 => by
  rw [h1] at h2; cases h2; exact Int.le_refl _
section
variable {n s t : Nat} {as : List Arc} {l₀ l : List Int} {dep : Nat → Nat} {fs : Fs} {st : List (Nat × Bool)} {m : Int}
/-- one leading on -/
theorem led_turn (wf : Wf n as) (f : Flow n as s t l) (k : Keeps as s t l₀ l) (hl : l₀.length = l.length) (B : Bfs n as l s dep fs) (w : DWalk as l dep s st t) (h : Least as l st (some m)) :
    Flow n as s t (goneL l st m) ∧ Keeps as s t l₀ (goneL l st m) ∧ mu n as s (goneL l st m) < mu n as s l := by
  obtain ⟨hb, hm⟩ := h
  have m0 : 0 ≤ m := by
    obtain ⟨i, f', a, x, _, h2, h3, h4⟩ := hb
    have := f.1.get h2 h3
    exact lft_nonneg this.1 this.2 h4
  have bo := gone_borne f.1 w.nodup m0 hm
  refine ⟨gone_flow f w.joined bo, fun i a x y h1 h2 h3 h4 => ?_, mu_lt wf B.lev w hb⟩
  have hlt := (List.getElem?_eq_some_iff.mp h3).1
  have hz : l[i]? = some (l[i]'(by omega)) := List.getElem?_eq_getElem (by omega)
  have e1 := k i a x _ h1 h2 h3 hz
  have e2 := gone_ends w m0 B.lev.s0 h1 h2 hz h4
  omega
end

/-! ### flows drawn -/
def fwd (p : List Nat) : List (Nat × Bool) := p.map fun i => (i, true)
theorem fwd_nodup {p : List Nat} (h : p.Nodup) : ((fwd p).map (·.1)).Nodup := by
  unfold fwd; rw [List.map_map]; simpa [Function.comp_def] using h
theorem mem_fwd {p : List Nat} {i : Nat} {f : Bool} : (i, f) ∈ fwd p ↔ i ∈ p ∧ f = true := by
  unfold fwd
  rw [List.mem_map]
  constructor
  · rintro ⟨j, h1, h2⟩
    cases h2; exact ⟨h1, rfl⟩
  · rintro ⟨h1, h2⟩
    exact ⟨i, h1, by rw [h2]⟩
theorem Joined.snoc {as : List Arc} {u w : Nat} {st : List (Nat × Bool)} {i : Nat} {f : Bool} {a : Arc} (j : Joined as u st w) (ha : as[i]? = some a) (hw : w = (if f then a.tl else a.hd)) : Joined as u (st ++ [(i, f)]) (if f then a.hd else a.tl) := by
  induction j with
  | nil => exact .cons ha hw rfl .nil
  | cons h1 h2 h3 _ ih => exact .cons h1 h2 h3 (ih hw)
theorem drawn_flow {n s t u v : Nat} {as : List Arc} {l : List Int} {p : List Nat} (f : Flow n as s t l) (j : Joined as u (fwd p) v) (nd : p.Nodup) (he : u = v ∨ ((u = s ∨ u = t) ∧ (v = s ∨ v = t)))
    (hm : ∀ i a x, i ∈ p → as[i]? = some a → l[i]? = some x → ∀ m, a.mo = some m → x < m) : Flow n as s t (goneL l (fwd p) 1) := by
  refine ⟨gone_borne f.1 (fwd_nodup nd) (by omega) fun i f' a x q h1 h2 h3 h4 => ?_, fun w hw h1 h2 => ?_⟩
  · obtain ⟨k1, k2⟩ := mem_fwd.mp h1
    subst k2
    unfold lft at h4
    simp only [if_true] at h4
    cases hmo : a.mo with
    | none => rw [hmo] at h4; cases h4
    | some m =>
      rw [hmo] at h4
      have := hm i a x k1 h2 h3 m hmo
      have : m - x = q := by simpa using h4
      omega
  · rw [sur_gone j f.1.len, f.2 w hw h1 h2]
    rcases he with rfl | ⟨k1, k2⟩
    · omega
    · have e1 : (v == w) = false := by simp; rcases k2 with rfl | rfl <;> omega
      have e2 : (u == w) = false := by simp; rcases k1 with rfl | rfl <;> omega
      simp [e1, e2, one]
theorem zero_flow {n s t : Nat} {as : List Arc} (wf : Wf n as) : Flow n as s t (zeros as.length) := by
  refine ⟨.of (by simp [zeros]) fun i a x h1 h2 => ?_, fun v _ _ _ => ?_⟩
  · have := zeros_get h2
    subst this
    exact ⟨Int.le_refl _, fun m hm => (wf a (List.mem_of_getElem? h1)).2.2 m hm⟩
  · have : ∀ as : List Arc, sur as (zeros as.length) v = 0 := by
      intro as
      induction as with
      | nil => rfl
      | cons a as ih =>
        show sur (a :: as) (0 :: zeros as.length) v = 0
        simp [sur, ih, one]
    exact this as
end FM
/-! what each def promises -/
namespace DL
open PySem L2
abbrev iD (n : Nat) : PyData := .int (n : Int)
def arcD (a : FM.Arc) : PyData := .tuple [iD a.tl, iD a.hd, optD a.mo]
def arcsD (as : List FM.Arc) : PyData := .tuple (as.map arcD)
def netD (n : Nat) (as : List FM.Arc) : PyData := .tuple [iD n, arcsD as]
def intsT (l : List Int) : PyData := .tuple (l.map PyData.int)
def sqD (b : Bool) (xs : List PyData) : PyData := if b then .list xs else .tuple xs
def wayI (f : Bool) : Int := if f then 1 else -1
def stepD (p : Nat × Bool) : PyData := .tuple [iD p.1, .int (wayI p.2)]
def stepsD (st : List (Nat × Bool)) : PyData := .tuple (st.map stepD)
def leadD (x : Nat × Bool × Nat) : PyData := .tuple [iD x.1, .int (wayI x.2.1), iD x.2.2]
def rowD (as : List FM.Arc) (u : Nat) : PyData := .tuple ((FM.leadsFrom 0 as u).map leadD)
def leadsD (n : Nat) (as : List FM.Arc) : PyData := .tuple ((List.range n).map (rowD as))
def comeD : Option (Nat × Bool) → PyData
  | none => .none
  | some q => stepD q
def fsK (fs : FM.Fs) : List (PyData × PyData) := fs.map fun p => (iD p.1, comeD p.2)
def nodesT (L : List Nat) : PyData := .tuple (L.map iD)
theorem sqD_seq (b : Bool) (xs : List PyData) : SeqD (sqD b xs) xs := by
  cases b
  · exact .t
  · exact .l

/-! ### what the program asks of data -/
def seqOf : PyData → Option (List PyData)
  | .list xs => some xs
  | .tuple xs => some xs
  | _ => none
theorem seqOf_sqD (b : Bool) (xs : List PyData) : seqOf (sqD b xs) = some xs := by cases b <;> rfl
theorem SeqD.of {d : PyData} {xs : List PyData} (h : seqOf d = some xs) : SeqD d xs := by
  cases d <;> simp [seqOf] at h
  · subst h; exact .l
  · subst h; exact .t
def isInt : PyData → Bool
  | .int _ => true
  | _ => false
def isNum : PyData → Bool
  | .int i => decide (0 ≤ i)
  | _ => false
def isBelow (d : PyData) (m : Int) : Bool := match d with
  | .int i => decide (0 ≤ i) && decide (i < m)
  | _ => false
def isSeq (d : PyData) : Bool := (seqOf d).isSome
def isArc (n : Int) (d : PyData) : Bool := match seqOf d with
  | some [a, b, c] => isBelow a n && (isBelow b n && (isNone c || isNum c))
  | _ => false
def toI : PyData → Int
  | .int i => i
  | _ => 0
def toO : PyData → Option Int
  | .int i => some i
  | _ => none
def arcOf (d : PyData) : FM.Arc := match seqOf d with
  | some [a, b, c] => ⟨(toI a).toNat, (toI b).toNat, toO c⟩
  | _ => ⟨0, 0, none⟩
def netOf (d : PyData) : Option (Nat × List FM.Arc) := match seqOf d with
  | some [a, b] => match seqOf b with
    | some xs => if isBelow a 2001 && (!decide (toI a = 0) && xs.all (isArc (toI a))) then some ((toI a).toNat, xs.map arcOf) else none
    | none => none
  | _ => none
def NetSz (d : PyData) : Prop := ∀ a b xs, seqOf d = some [a, b] → seqOf b = some xs → xs.length ≤ 1000
structure NetOk (n : Nat) (as : List FM.Arc) : Prop where
  n0 : 0 < n
  n1 : n ≤ 2000
  wf : FM.Wf n as
  sz : as.length ≤ 1000
def ndOf (n : Nat) : PyData → Option Nat
  | .int i => if 0 ≤ i ∧ i < n then some i.toNat else none
  | _ => none
def badNet (d : PyData) : Option Nat := if (netOf d).isSome then none else some 0
def badNode (n : Nat) (d : PyData) : Option Nat := if (ndOf n d).isSome then none else some 1
def badPr (n : Nat) (s g : PyData) : Option Nat := match ndOf n s with
  | none => some 1
  | some a => match ndOf n g with
    | none => some 2
    | some b => if b = a then some 2 else none
def badPair (d s g : PyData) : Option Nat := match netOf d with
  | none => some 0
  | some (n, _) => badPr n s g
def loadOf (v : PyData) : Option (List Int) := match seqOf v with
  | some xs => if xs.all isNum then some (xs.map toI) else none
  | none => none
def bear1 (p : FM.Arc × Int) : Bool := match p.1.mo with
  | none => true
  | some m => decide (p.2 ≤ m)
def isLoad (as : List FM.Arc) (v : PyData) : Bool := match loadOf v with
  | some l => decide (l.length = as.length) && (as.zip l).all bear1
  | none => false
def isFit (n : Nat) (as : List FM.Arc) (s t : Nat) (v : PyData) : Bool := isLoad as v && (List.range n).all fun u => decide (FM.sur as ((loadOf v).getD []) u = 0) || (decide (u = s) || decide (u = t))
def badFit (d s g v : PyData) : Option Nat := match netOf d with
  | none => some 0
  | some (n, as) => match ndOf n s with
    | none => some 1
    | some a => match ndOf n g with
      | none => some 2
      | some b => if b = a then some 2 else if isFit n as a b v then none else some 3
def VSz (v : PyData) : Prop := ∀ xs, seqOf v = some xs → xs.length ≤ 2000
def ascB (L : List Nat) : Bool := (L.zip L.tail).all fun p => decide (p.1 < p.2)

/-! ### promises -/
def sp_is_integer (C : Addr) : Sp := SP C (fun x : PyData => [x]) (fun _ => True) never fun x d => d = .bool (isInt x)
def sp_is_number (C : Addr) : Sp := SP C (fun x : PyData => [x]) (fun _ => True) never fun x d => d = .bool (isNum x)
def sp_is_below (C : Addr) : Sp := SP C (fun p : PyData × Int => [p.1, .int p.2]) (fun _ => True) never fun p d => d = .bool (isBelow p.1 p.2)
def sp_is_sequence (C : Addr) : Sp := SP C (fun x : PyData => [x]) (fun _ => True) never fun x d => d = .bool (isSeq x)
def sp_is_ascending (C : Addr) : Sp := SP C (fun L : List Nat => [nodesT L]) (fun L => 0 < L.length ∧ L.length ≤ 2000) never fun L d => d = .bool (ascB L)
def sp_is_lot (C : Addr) : Sp := SP C (fun p : List Nat × Nat => [nodesT p.1, iD p.2]) (fun p => 0 < p.1.length ∧ p.1.length ≤ 2000) never fun p d => d = .bool (p.1.all (fun v => decide (v < p.2)) && ascB p.1)
def sp_is_arc (C : Addr) : Sp := SP C (fun p : Int × PyData => [.int p.1, p.2]) (fun _ => True) never fun p d => d = .bool (isArc p.1 p.2)
def sp_check_net (C : Addr) : Sp := SP C (fun x : PyData => [x]) NetSz badNet fun x d => ∃ n as, netOf x = some (n, as) ∧ d = netD n as
def sp_need_node (C : Addr) : Sp := SP C (fun p : Nat × PyData => [iD p.1, p.2]) (fun _ => True) (fun p => badNode p.1 p.2) fun p d => d = p.2
structure NE where
  n : Nat
  s : Nat
  b : Bool
  es : List Nat
def sp_need_ends (C : Addr) : Sp := SP C (fun p : NE => [iD p.n, iD p.s, sqD p.b (p.es.map iD)]) (fun p => p.s < p.n ∧ (∀ x ∈ p.es, x < p.n ∧ x ≠ p.s) ∧ p.es.Nodup ∧ p.es.length ≤ 1000) never fun p d => d = nodesT p.es
def sp_need_pair (C : Addr) : Sp := SP C (fun p : Nat × PyData × PyData => [iD p.1, p.2.1, p.2.2]) (fun _ => True) (fun p => badPr p.1 p.2.1 p.2.2) fun p d => d = p.2.2
def sp_are_borne (C : Addr) : Sp := SP C (fun p : List FM.Arc × PyData => [arcsD p.1, p.2]) (fun p => p.1.length ≤ 1000 ∧ VSz p.2) never fun p d => d = .bool (isLoad p.1 p.2)
structure Ld where
  n : Nat
  as : List FM.Arc
  b : Bool
  l : List Int
def sp_need_load (C : Addr) : Sp := SP C (fun p : Ld => [arcsD p.as, sqD p.b (p.l.map PyData.int)]) (fun p => p.as.length ≤ 1000 ∧ FM.Borne p.as p.l) never fun p d => d = intsT p.l
def sp_surplus (C : Addr) : Sp := SP C (fun p : Ld => [iD p.n, arcsD p.as, sqD p.b (p.l.map PyData.int)]) (fun p => NetOk p.n p.as ∧ p.l.length = p.as.length) never fun p d => d = .tuple ((List.range p.n).map fun v => .int (FM.sur p.as p.l v))
def sp_no_flow (C : Addr) : Sp := SP C (fun x : PyData => [x]) NetSz badNet fun x d => ∃ n as, netOf x = some (n, as) ∧ d = intsT (FM.zeros as.length)
structure Ft where
  n : Nat
  as : List FM.Arc
  s : Nat
  t : Nat
  v : PyData
def sp_fits (C : Addr) : Sp := SP C (fun p : Ft => [iD p.n, arcsD p.as, .tuple [iD p.s, iD p.t], p.v]) (fun p => NetOk p.n p.as ∧ VSz p.v) never fun p d => d = .bool (isFit p.n p.as p.s p.t p.v)
structure Q4 where
  d : PyData
  s : PyData
  g : PyData
  v : PyData
def sp_flow_fits (C : Addr) : Sp := SP C (fun p : Q4 => [p.d, p.s, p.g, p.v]) (fun p => NetSz p.d ∧ VSz p.v) (fun p => badPair p.d p.s p.g) fun p r => ∃ n as a b, netOf p.d = some (n, as) ∧ ndOf n p.s = some a ∧ ndOf n p.g = some b ∧ r = .bool (isFit n as a b p.v)
def sp_need_fit (C : Addr) : Sp := SP C (fun p : Q4 => [p.d, p.s, p.g, p.v]) (fun p => NetSz p.d ∧ VSz p.v) (fun p => badFit p.d p.s p.g p.v) fun p r => ∃ l, loadOf p.v = some l ∧ r = intsT l
structure Nw where
  d : PyData
  n : Nat
  as : List FM.Arc
  b : Bool
  l : List Int
  s : Nat
  t : Nat
def sp_worth (C : Addr) : Sp := SP C (fun p : Nw => [p.d, iD p.s, iD p.t, sqD p.b (p.l.map PyData.int)]) (fun p => NetSz p.d ∧ netOf p.d = some (p.n, p.as) ∧ p.s < p.n ∧ p.t < p.n ∧ p.s ≠ p.t ∧ FM.Flow p.n p.as p.s p.t p.l) never fun p r => r = .int (FM.sur p.as p.l p.t)
structure Nl where
  d : PyData
  n : Nat
  as : List FM.Arc
  L : List Nat
def sp_cut_worth (C : Addr) : Sp := SP C (fun p : Nl => [p.d, nodesT p.L]) (fun p => NetSz p.d ∧ netOf p.d = some (p.n, p.as) ∧ 0 < p.L.length ∧ p.L.length ≤ 2000 ∧ p.L.Pairwise (· < ·) ∧ ∀ x ∈ p.L, x < p.n) never fun p r => r = optD (FM.cutw p.as (FM.memL p.L))
structure Lw where
  as : List FM.Arc
  l : List Int
  i : Nat
  f : Bool
def sp_left_of (C : Addr) : Sp := SP C (fun p : Lw => [arcsD p.as, intsT p.l, iD p.i, .int (wayI p.f)]) (fun p => p.l.length = p.as.length ∧ p.i < p.as.length) never fun p r => ∃ a x, p.as[p.i]? = some a ∧ p.l[p.i]? = some x ∧ r = optD (FM.lft a x p.f)
def sp_can_go (C : Addr) : Sp := SP C (fun p : Lw => [arcsD p.as, intsT p.l, iD p.i, .int (wayI p.f)]) (fun p => p.l.length = p.as.length ∧ p.i < p.as.length) never fun p r => ∃ a x, p.as[p.i]? = some a ∧ p.l[p.i]? = some x ∧ r = .bool (!decide (FM.lft a x p.f = some 0))
def sp_side_of (C : Addr) : Sp := SP C (fun p : List FM.Arc × Nat × Bool => [arcsD p.1, stepD p.2]) (fun p => p.2.1 < p.1.length) never fun p r => ∃ a, p.1[p.2.1]? = some a ∧ r = .tuple [iD (if p.2.2 then a.tl else a.hd), iD (if p.2.2 then a.hd else a.tl)]
def sp_leads_of (C : Addr) : Sp := SP C (fun p : Nat × List FM.Arc => [iD p.1, arcsD p.2]) (fun p => NetOk p.1 p.2) never fun p r => r = leadsD p.1 p.2
structure Cb where
  n : Nat
  as : List FM.Arc
  l : List Int
  s : Nat
def sp_come_by (C : Addr) : Sp := SP C (fun p : Cb => [leadsD p.n p.as, arcsD p.as, intsT p.l, iD p.s]) (fun p => NetOk p.n p.as ∧ p.l.length = p.as.length ∧ p.s < p.n) never fun p r => ∃ dep fs, FM.Bfs p.n p.as p.l p.s dep fs ∧ r = .dict (fsK fs)
structure Tc where
  n : Nat
  as : List FM.Arc
  l : List Int
  s : Nat
  dep : Nat → Nat
  fs : FM.Fs
  v : Nat
def sp_traced (C : Addr) : Sp := SP C (fun p : Tc => [arcsD p.as, .dict (fsK p.fs), iD p.v]) (fun p => NetOk p.n p.as ∧ FM.Bfs p.n p.as p.l p.s p.dep p.fs ∧ p.v ∈ FM.keys p.fs) never fun p r => ∃ st, FM.DWalk p.as p.l p.dep p.s st p.v ∧ r = stepsD st
def sp_walk (C : Addr) : Sp := SP C (fun p : Nw × Bool => [p.1.d, sqD p.1.b (p.1.l.map PyData.int), iD p.1.s, sqD p.2 [iD p.1.t]]) (fun p => NetSz p.1.d ∧ netOf p.1.d = some (p.1.n, p.1.as) ∧ p.1.s < p.1.n ∧ p.1.t < p.1.n ∧ p.1.s ≠ p.1.t ∧ FM.Borne p.1.as p.1.l) never fun p r => isNone r = true ↔ ¬ FM.Reach p.1.as p.1.l p.1.s p.1.t
def sp_reached (C : Addr) : Sp := SP C (fun p : Nw => [p.d, sqD p.b (p.l.map PyData.int), iD p.s]) (fun p => NetSz p.d ∧ netOf p.d = some (p.n, p.as) ∧ p.s < p.n ∧ FM.Borne p.as p.l) never fun p r => r = nodesT (FM.asc p.n (FM.rset p.as p.l p.s))
def sp_reaching (C : Addr) : Sp := SP C (fun p : Nw => [p.d, sqD p.b (p.l.map PyData.int), iD p.t]) (fun p => NetSz p.d ∧ netOf p.d = some (p.n, p.as) ∧ p.t < p.n ∧ FM.Borne p.as p.l) never fun p r => r = nodesT (FM.asc p.n (FM.rset (FM.turn p.as) p.l p.t))
def sp_least_left (C : Addr) : Sp := SP C (fun p : List FM.Arc × List Int × List (Nat × Bool) => [arcsD p.1, intsT p.2.1, stepsD p.2.2]) (fun p => p.2.1.length = p.1.length ∧ p.2.2.length ≤ 1000 ∧ ∀ q ∈ p.2.2, q.1 < p.1.length) never fun p r => ∃ o, FM.Least p.1 p.2.1 p.2.2 o ∧ r = optD o
def sp_gone (C : Addr) : Sp := SP C (fun p : List Int × List (Nat × Bool) × Int => [intsT p.1, stepsD p.2.1, .int p.2.2]) (fun p => p.2.1.length ≤ 1000 ∧ ∀ q ∈ p.2.1, q.1 < p.1.length) never fun p r => r = intsT (FM.goneL p.1 p.2.1 p.2.2)
/-- a flow led on to a greatest one, or bounds failing -/
def LedR (n : Nat) (as : List FM.Arc) (s t : Nat) (l : List Int) (r : PyData) : Prop := (∃ l', FM.Best n as s t l' ∧ FM.Keeps as s t l l' ∧ r = intsT l') ∨ (FM.FreeR as s t ∧ r = .none)
def sp_led_by (C : Addr) : Sp := SP C (fun p : Nw => [iD p.n, arcsD p.as, iD p.s, .tuple [iD p.t], intsT p.l]) (fun p => NetOk p.n p.as ∧ p.s < p.n ∧ p.t < p.n ∧ p.s ≠ p.t ∧ FM.Flow p.n p.as p.s p.t p.l) never fun p r => LedR p.n p.as p.s p.t p.l r
def sp_led_on (C : Addr) : Sp := SP C (fun p : Q4 => [p.d, p.s, p.g, p.v]) (fun p => NetSz p.d ∧ VSz p.v) (fun p => badFit p.d p.s p.g p.v) fun p r => ∃ n as a b l, netOf p.d = some (n, as) ∧ ndOf n p.s = some a ∧ ndOf n p.g = some b ∧ loadOf p.v = some l ∧ LedR n as a b l r
structure Q3 where
  d : PyData
  s : PyData
  g : PyData
def sp_greatest (C : Addr) : Sp := SP C (fun p : Q3 => [p.d, p.s, p.g]) (fun p => NetSz p.d) (fun p => badPair p.d p.s p.g) fun p r => ∃ n as a b, netOf p.d = some (n, as) ∧ ndOf n p.s = some a ∧ ndOf n p.g = some b ∧ LedR n as a b (FM.zeros as.length) r
def CutR (n : Nat) (as : List FM.Arc) (s t : Nat) (r : PyData) : Prop := (∃ l, FM.Best n as s t l ∧ r = .tuple [nodesT (FM.asc n (FM.rset as l s)), nodesT (FM.asc n (FM.lset as l t))]) ∨ (FM.FreeR as s t ∧ r = .none)
def sp_cuts (C : Addr) : Sp := SP C (fun p : Q3 => [p.d, p.s, p.g]) (fun p => NetSz p.d) (fun p => badPair p.d p.s p.g) fun p r => ∃ n as a b, netOf p.d = some (n, as) ∧ ndOf n p.s = some a ∧ ndOf n p.g = some b ∧ CutR n as a b r
end DL
/-! readings of our own -/
namespace DL
open PySem PySem.Spec PyProof.Rows L2
def topS (i : Nat) : Stmt := PySem.Challenge.pw_outsoonest_k15_whole_greatest_flows_and.main.body.getD i (.Pass ⟨0, 0, 0, 0⟩)
def rLen (K : PySem.W.Frag) : List V → Hp → VK → Prop := fun xs H Q => ∃ p ys, xs = [.ref p] ∧ (SqL K H p ys ∨ SqT K H p ys) ∧ Q (.int ys.length) H
def rLenD : List V → Hp → VK → Prop := fun xs H Q => ∃ a kvs, xs = [V.ref a] ∧ H a = some (.dK kvs) ∧ Q (.int kvs.length) H
def rListOf (K : PySem.W.Frag) : List V → Hp → VK → Prop := fun xs H Q => ∃ p ys, xs = [.ref p] ∧ (SqL K H p ys ∨ SqT K H p ys) ∧ ∀ l, H l = none → Q (.ref l) (upd H l (.lst ys))
def rTupOf (K : PySem.W.Frag) : List V → Hp → VK → Prop := fun xs H Q => ∃ p ys, xs = [.ref p] ∧ ((SqL K H p ys ∧ ∀ l, H l = none → Q (.ref l) (upd H l (.tup ys))) ∨ (SqT K H p ys ∧ Q (.ref p) H))
def rAbs : List V → Hp → VK → Prop := fun xs H Q => ∃ i, xs = [.int i] ∧ Q (.int (if i < 0 then -i else i)) H
def rInt : List V → Hp → VK → Prop := fun xs H Q => (∃ i, xs = [.int i] ∧ Q (.int i) H) ∨ ∃ k, xs = [.bl k] ∧ Q (.int (if k then 1 else 0)) H
/-- a tuple times a number, any number of turns -/
def rRepZ (K : PySem.W.Frag) : R2 := fun x y H Q => ∃ l k v, x = .ref l ∧ y = .int k ∧ SqT K H l [v] ∧ 0 ≤ k ∧ k ≤ 1000 ∧ (k = 1 → Q (.ref l) H) ∧ (k ≠ 1 → ∀ p, H p = none → Q (.ref p) (upd H p (.tup (List.replicate k.toNat v))))
/-- a tuple and a list, side by side -/
def ItzM (K : PySem.W.Frag) (a b : Addr) : It :=
  ⟨fun i H => ∃ (xs ys : List V) (x y : V), SqT K H a xs ∧ SqL K H b ys ∧ xs[i]? = some x ∧ ys[i]? = some y,
    fun i H v H' => ∃ T x y, v = .ref T ∧ H T = none ∧ H' = upd H T (.tup [x, y]) ∧ (∀ xs, SqT K H a xs → xs[i]? = some x) ∧ ∀ ys, SqL K H b ys → ys[i]? = some y,
    fun i H => ∃ xs ys : List V, SqT K H a xs ∧ SqL K H b ys ∧ i = min xs.length ys.length⟩
def iZipM (K : PySem.W.Frag) (ta : TA) : TI := fun σ H R => ta σ H fun vs H1 => ∃ a b xs ys, vs = [.ref a, .ref b] ∧ SqT K H1 a xs ∧ SqL K H1 b ys ∧ R (ItzM K a b) H1
def iZipS (K : PySem.W.Frag) (ta : TA) : TI := fun σ H R => RZ.iZipA K ta σ H R ∨ iZipM K ta σ H R
/-- a tuple with its places -/
def IteT (K : PySem.W.Frag) (a : Addr) : It :=
  ⟨fun i H => ∃ (xs : List V) (x : V), SqT K H a xs ∧ xs[i]? = some x, fun i H v H' => ∃ T x, v = .ref T ∧ H T = none ∧ H' = upd H T (.tup [.int (i : Nat), x]) ∧ ∀ xs, SqT K H a xs → xs[i]? = some x, fun i H => ∃ xs : List V, SqT K H a xs ∧ i = xs.length⟩
def iEnumT (K : PySem.W.Frag) (ta : TA) : TI := fun σ H R => ta σ H fun vs H1 => ∃ a xs, vs = [.ref a] ∧ SqT K H1 a xs ∧ R (IteT K a) H1
theorem bt_isinstance : bootBuiltins "isinstance" = some (.builtin "isinstance") := by decide +kernel
theorem bt_all : bootBuiltins "all" = some (.builtin "all") := by decide +kernel
theorem bt_sum : bootBuiltins "sum" = some (.builtin "sum") := by decide +kernel
theorem bt_min : bootBuiltins "min" = some (.builtin "min") := by decide +kernel
theorem bt_sorted : bootBuiltins "sorted" = some (.builtin "sorted") := by decide +kernel
theorem bt_abs : bootBuiltins "abs" = some (.builtin "abs") := by decide +kernel
theorem bt_repr : bootBuiltins "repr" = some (.builtin "repr") := by decide +kernel
theorem bt_len : bootBuiltins "len" = some (.builtin "len") := by decide +kernel
theorem bt_tuple : bootBuiltins "tuple" = some (.type "tuple") := by decide +kernel
theorem bt_list : bootBuiltins "list" = some (.type "list") := by decide +kernel
theorem bt_int : bootBuiltins "int" = some (.type "int") := by decide +kernel
theorem bt_bool : bootBuiltins "bool" = some (.type "bool") := by decide +kernel
/-- a call by names alone, in the parameters' order turned -/
def tCallR (sp : Sp) (E : XK) (tk : TA) : TE := fun σ H Q => tk σ H fun zs H1 => sp zs.reverse H1 Q E
/-- the refusal -/
def tRaiseR (C : Addr) (E : XK) (te : TE) : TS := fun _ σ H => te σ H fun v H1 => ∀ d, H1 d = none → E (.ref C) (some d) (upd H1 d (.xd [("at", v)]))

end DL
namespace DL
open PySem PySem.Spec PyProof.Rows L2
/-- a tuple times one: itself -/
theorem tupOnce (a : Addr) (vs : Array Value) (m : Nat) (dd : Option Addr) (sl : Array (Option Value)) (u : Tok) :
    Meets (Builtin.«tuple.__mul__» ⟨[.ref a, .int 1 u], []⟩) (fun _ R s => s.heap.get? a = some { cls := .type "tuple", dict := dd, data := .seq vs m, slots := sl } ∧ R (.ok (.ret (.ref a))) s) :=
  .of_wp fun prog w A R s hyp => by
    obtain ⟨hp, gs, dr, tk, os⟩ := s
    obtain ⟨ha, hyp⟩ := hyp
    have idx := AutoSeq1.idx_int
    have ht : Shared.TypeIs ⟨hp, gs, dr, tk, os⟩ (.ref a) "tuple" := ⟨_, ha, rfl⟩
    wp_walk using wpAny_loadPart' ha
    repeat (first
      | (refine wpAny_ite_false (by decide) ?_; wp_walk using wpAny_loadPart' ha)
      | (refine wpAny_ite_true (by simp) ?_; wp_walk using wpAny_loadPart' ha))
    exact ⟨_, rfl, hyp⟩
/-- a tuple of one times none: the empty one, new -/
theorem tupNone (a : Addr) (x : Value) (m : Nat) (dd : Option Addr) (sl : Array (Option Value)) (u : Tok) :
    Meets (Builtin.«tuple.__mul__» ⟨[.ref a, .int 0 u], []⟩) (fun _ R s => s.heap.get? a = some { cls := .type "tuple", dict := dd, data := .seq #[x] m, slots := sl } ∧
      R (.ok (.ret (.ref s.heap.objs.size))) { s with heap := s.heap.push { cls := .type "tuple", data := .seq #[] } }) :=
  .of_wp fun prog w A R s hyp => by
    obtain ⟨hp, gs, dr, tk, os⟩ := s
    obtain ⟨ha, hyp⟩ := hyp
    have idx := AutoSeq1.idx_int
    wp_walk using wpAny_loadPart' ha
    repeat (first
      | (refine wpAny_ite_false (by decide) ?_; wp_walk using wpAny_loadPart' ha)
      | (refine wpAny_ite_true (by decide) ?_; wp_walk using wpAny_loadPart' ha))
    exact ⟨_, rfl, hyp⟩
variable {X : Cx}
theorem op_repZ' : OpR X (binaryOp .Mult) (rRepZ X.K) := by
  intro pins s σ H x y v u Q I rx ry
  intro h
  obtain ⟨l, k, z, rfl, rfl, hT, k0, k1, q1, q2⟩ := h
  cases rx
  obtain ⟨t, rfl⟩ := ry
  by_cases h2 : 2 ≤ k
  · refine op_repT pins s σ H (.ref l) (.int k) (.ref l) (.int k t) Q I rfl ⟨t, rfl⟩ ⟨l, k, [z], rfl, rfl, hT, by simp, h2, k1, by simp, fun p hp => ?_⟩
    rw [List.flatten_replicate_singleton]
    exact q2 (by omega) p hp
  have ⟨its, r, ⟨⟨cls, dd, data, sl⟩, ho, hc, n, hd⟩, hs⟩ := I.tuple hT
  simp only at hc hd
  subst hc hd
  have road : ∀ {k : Int}, wpAny (model X.prog X.w) X.A (call (.builtin "tuple.__mul__") [.ref l, .int k t]) (EP X pins σ Q) X.xe s → wpAny (model X.prog X.w) X.A (binaryOp .Mult (.ref l) (.int k t)) (EP X pins σ Q) X.xe s := fun {k} hm =>
    wpAny_binaryOp_repeat_ref (T := "tuple") (U := "int") (by decide) ⟨_, ho, rfl⟩ (fun s' => typeIs_int s' k t) noFill_tuple_mul F.fills_int_mul F.slot_int_rmul repeat_tuple F.slot_int_index.lookup
      (call_meets F.slot_int_rmul (typeIs_int s k t) F.entry_int_rmul (F.args_int_rmul_2 _ _) (int_rmul_tuple k t l its.toArray n dd sl) ⟨ho, rfl, ⟨_, ho, rfl⟩, hm⟩)
  by_cases h1 : k = 1
  · subst h1
    exact road (call_meets F.slot_tuple_mul ⟨_, ho, rfl⟩ F.entry_tuple_mul (F.args_tuple_mul_2 _ _) (tupOnce l its.toArray n dd sl t) ⟨ho, .ref l, H, I, rfl, q1 rfl⟩)
  · have h0 : k = 0 := by omega
    subst h0
    obtain ⟨u, hu⟩ : ∃ u, its = [u] := by
      have := r.length
      match its, this with
      | [u], _ => exact ⟨u, rfl⟩
    subst hu
    refine road (call_meets F.slot_tuple_mul ⟨_, ho, rfl⟩ F.entry_tuple_mul (F.args_tuple_mul_2 _ _) (tupNone l u n dd sl t) ⟨ho, ?_⟩)
    exact ⟨.ref s.heap.objs.size, _, I.laid (t' := s.toks) (o := .tup []) (fun b ob q => Heap.get?_push_of_some _ q) (Nat.le_refl _) ⟨Nat.zero_le _, [], .nil, IsTup.new _ _⟩, rfl, q2 (by omega) _ (I.hok.fresh (Nat.le_refl _))⟩
end DL
namespace DL
open PySem PySem.Spec PyProof.Rows L2
/-- the turn of an iterator that hands out a new pair at each step -/
theorem stepNew {X : Cx} {tg : Expr} {I : Addr} {fp wr ch : List Addr} {n i : Nat} {Y : Nat → Heap → Value → Heap → Prop} {St tn : Nat → Heap → Prop} {J : It} {pins : List (Addr × Obj)} {s : Shared} {σ : L2.St} {H : Hp} {E : Value → Shared → Prop}
    (W : GoesN X.prog X.w X.A tg I fp wr n Y St) (hw : ∀ b ∈ wr, b ∈ ch) (II : Inv X pins σ H s) (hf : ∀ b ∈ ch, FpOk X pins H b) (hlt : ∀ b ∈ ch, b < s.heap.objs.size) (hi : i < n) (st : St i s.heap)
    (hY : ∀ v h', Y i s.heap v h' → St (i + 1) h' → (∀ b o, b ∉ wr → s.heap.get? b = some o → h'.get? b = some o) → ∃ (T : Addr) (xs : List V) (us : List Value), v = .ref T ∧ s.heap.objs.size ≤ T ∧ Vals xs us ∧ xs.length ≤ 1000 ∧ h'.IsTuple T us.toArray ∧ J.yld i H (.ref T) (upd H T (.tup xs)) ∧ tn (i + 1) h') :
    wpAny (model X.prog X.w) X.A (pyNext (.ref I)) (fun r s1 => ∃ u, r = some u ∧ wpAny (model X.prog X.w) X.A (letOwnedTupleGo tg (.ref I) u) (fun _ s2 => ∃ x H', Inv X pins σ H' s2 ∧ RelV x u ∧ J.yld i H x H' ∧ tn (i + 1) s2.heap ∧ ∀ b ∈ ch, H' b = none) E s1) E s := by
  refine W.goes i s (fun v s2 => ∃ x H', Inv X pins σ H' s2 ∧ RelV x v ∧ J.yld i H x H' ∧ tn (i + 1) s2.heap ∧ ∀ b ∈ ch, H' b = none) E hi st fun v h' tk y st' kp _ => ?_
  obtain ⟨T, xs, us, rfl, hT, rv, hz, tup, jy, tn'⟩ := hY v h' y st' kp
  have new : ObjOk X.prog X.w (upd H T (.tup xs)) h' T (.tup xs) := ⟨Nat.le_trans hz (by decide), us, rv, tup⟩
  have I1 : Inv X pins σ (upd H T (.tup xs)) { s with heap := h', toks := tk } := II.turnedNew (t' := tk) (ch := ch) (fun b o hb q => kp b o (fun z => hb (hw b z)) q) hf hT new
  refine ⟨.ref T, _, I1, rfl, jy, tn', fun b hb => ?_⟩
  rw [upd_ne (Nat.ne_of_lt (Nat.lt_of_lt_of_le (hlt b hb) hT))]
  exact (hf b hb).1
theorem stopNew {X : Cx} {tg : Expr} {I : Addr} {fp wr ch : List Addr} {n : Nat} {Y : Nat → Heap → Value → Heap → Prop} {St : Nat → Heap → Prop} {pins : List (Addr × Obj)} {s : Shared} {σ : L2.St} {H : Hp} {E : Value → Shared → Prop}
    (W : GoesN X.prog X.w X.A tg I fp wr n Y St) (hw : ∀ b ∈ wr, b ∈ ch) (II : Inv X pins σ H s) (hf : ∀ b ∈ ch, FpOk X pins H b) (st : St n s.heap) :
    wpAny (model X.prog X.w) X.A (pyNext (.ref I)) (fun r s1 => r = none ∧ Inv X pins σ H s1) E s :=
  W.stops s (fun s1 => Inv X pins σ H s1) E st fun h' tk kp _ => II.turnedL (t' := tk) (ch := ch) (fun b o hb q => kp b o (fun z => hb (hw b z)) q) hf
/-! ### zip of a tuple and a list -/
structure ZmSt (a b N : Addr) (i : Nat) (h : Heap) : Prop where
  z : IsZip h (N + 4) (N + 2) (N + 3) .none
  ti : IsTupOf2 h (N + 2) (.ref N) (.ref (N + 1))
  to_ : ∃ x y, IsTupOf2 h (N + 3) x y
  it1 : h.IsTupleIter N a i
  it2 : h.IsListIter (N + 1) b i
theorem turn_zipM {P : Program} {w : World} {K : PySem.W.Frag} {elts : List Expr} {kk : Nat} {tpos : Pos} {a b N : Addr} (ha : a < N) (hb : b < N) :
    Turn P w K (.Tuple elts kk tpos) (ItzM K a b) [N + 4, N + 2, N + 3, N, N + 1] (N + 4) (ZmSt a b N) where
  mem := by simp
  obj := fun i h st c hc => by
    obtain ⟨hz, hT, ⟨x, y, hO⟩, ⟨o1, e1, _, d1⟩, ⟨o2, e2, _, d2⟩⟩ := st
    simp only [List.mem_cons, List.not_mem_nil, or_false] at hc
    rcases hc with rfl | rfl | rfl | rfl | rfl
    · exact ⟨_, hz, fun v q => nomatch q⟩
    · exact ⟨_, hT, fun v q => nomatch q⟩
    · exact ⟨_, hO, fun v q => nomatch q⟩
    · exact ⟨_, e1, fun v q => by rw [d1] at q; cases q⟩
    · exact ⟨_, e2, fun v q => by rw [d2] at q; cases q⟩
  keep := fun i h h' st k => ⟨k _ (by simp) _ st.z, k _ (by simp) _ st.ti, let ⟨x, y, q⟩ := st.to_; ⟨x, y, k _ (by simp) _ q⟩, st.it1.at fun o q => k _ (by simp) o q, st.it2.at fun o q => k _ (by simp) o q⟩
  item := by
    intro X eP ew eK hc i pins s σ H E II hf st hg
    subst eP ew eK
    obtain ⟨xs, ys, x, y, hx, hy, ex, ey⟩ := hg
    obtain ⟨us, rx, px, _⟩ := II.tuple hx
    obtain ⟨vs, ry, py, _⟩ := II.list hy
    have hh : X.A.in1.handled = none := II.ok.hd hc
    have W := GoesN.zip2 (elts := elts) (x1 := kk) (pos := tpos) (zip_sep2 (N := N) (fp1 := [a]) (fp2 := [b]) (by simpa using ha) (by simpa using hb)) (Draws.tuple (prog := X.prog) (w := X.w) hh N a (Nat.ne_of_lt ha) us.toArray) (Draws.list (prog := X.prog) (w := X.w) hh (N + 1) b (Nat.ne_of_lt (Nat.lt_succ_of_lt hb)) vs.toArray)
    have lx := rx.length
    have ly := ry.length
    have i1 := (List.getElem?_eq_some_iff.mp ex).1
    have i2 := (List.getElem?_eq_some_iff.mp ey).1
    have lz : N + 4 < s.heap.objs.size := Heap.lt_size st.z
    refine stepNew (J := ItzM X.K a b) (tn := ZmSt a b N) W (fun c hc => ?_) II hf (fun c hc => ?_) (by simp; omega) ⟨st.z, st.ti, st.to_, ⟨st.it1, px⟩, st.it2, py.isList⟩ fun v h' hY st' kp => ?_
    · simp only [List.mem_cons, List.not_mem_nil, or_false] at hc ⊢
      rcases hc with q | q | q | q <;> simp [q]
    · simp only [List.mem_cons, List.not_mem_nil, or_false] at hc
      have key : ∀ k : Nat, k ≤ 4 → (N + k : Nat) < s.heap.objs.size := fun k hk => Nat.lt_of_le_of_lt (Nat.add_le_add_left hk N) lz
      rcases hc with q | q | q | q | q
      · rw [q]; exact key 4 (by decide)
      · rw [q]; exact key 2 (by decide)
      · rw [q]; exact key 3 (by decide)
      · rw [q]; exact key 0 (by decide)
      · rw [q]; exact key 1 (by decide)
    · obtain ⟨T, u1, u2, rfl, hT, p1, p2, tup⟩ := hY
      obtain ⟨w1, hw1, r1⟩ := rx.get ex
      obtain ⟨w2, hw2, r2⟩ := ry.get ey
      have p1 : us.toArray[i]? = some u1 := p1
      have p2 : vs.toArray[i]? = some u2 := p2
      have q1 : w1 = u1 := by
        have := hw1.symm.trans (by simpa using p1)
        exact Option.some.inj this
      have q2 : w2 = u2 := by
        have := hw2.symm.trans (by simpa using p2)
        exact Option.some.inj this
      subst q1 q2
      obtain ⟨z1, z2, z3, z4, z5⟩ := st'
      exact ⟨T, [x, y], [w1, w2], rfl, hT, .cons r1 (.cons r2 .nil), by simp, tup, ⟨T, x, y, rfl, II.hok.fresh hT, rfl, fun l hl => by rw [II.tuple_inj hl hx]; exact ex, fun l hl => by rw [II.list_inj hl hy]; exact ey⟩, ⟨z1, z2, z3, z4.1, z5.1⟩⟩
  done := by
    intro X eP ew eK hc i pins s σ H E II hf st hg
    subst eP ew eK
    obtain ⟨xs, ys, hx, hy, hi⟩ := hg
    obtain ⟨us, rx, px, _⟩ := II.tuple hx
    obtain ⟨vs, ry, py, _⟩ := II.list hy
    have hh : X.A.in1.handled = none := II.ok.hd hc
    have W := GoesN.zip2 (elts := elts) (x1 := kk) (pos := tpos) (zip_sep2 (N := N) (fp1 := [a]) (fp2 := [b]) (by simpa using ha) (by simpa using hb)) (Draws.tuple (prog := X.prog) (w := X.w) hh N a (Nat.ne_of_lt ha) us.toArray) (Draws.list (prog := X.prog) (w := X.w) hh (N + 1) b (Nat.ne_of_lt (Nat.lt_succ_of_lt hb)) vs.toArray)
    have lx := rx.length
    have ly := ry.length
    have e1 : i = min us.toArray.size vs.toArray.size := by simp; omega
    refine stopNew W (fun c hc => ?_) II hf (by rw [← e1]; exact ⟨st.z, st.ti, st.to_, ⟨st.it1, px⟩, st.it2, py.isList⟩)
    simp only [List.mem_cons, List.not_mem_nil, or_false] at hc ⊢
    rcases hc with q | q | q | q <;> simp [q]
  self := fun A i s Q E st h => wpAny_pyIter_zip st.z h
theorem pi_zipM' {X : Cx} {e e2 : Expr} {ta : TA} {p pos tpos : Pos} {elts : List Expr} {kk : Nat} (hg : Gl X "zip") (hm : X.mg "zip" = none) (ha : PA X [e, e2] ta)
    (hs : starEach [e, e2] X.env = (false, eval e X.env) :: starEach [e2] X.env := by rfl)
    (hpl : (backTo pos (starEach [e2] X.env)).any (·.1) = false := by rfl) :
    PI X (.Tuple elts kk tpos) (.Call (.Name "zip" p) [e, e2] [] pos) (iZipM X.K ta) := by
  refine ⟨fun pins s σ H R II hr => Call_ (ld_blt II hg hm PyProof.Rows.boot_zip (PyProof.Rows.callWith_type1 (thn (ha.run pos pins s σ H _ II hr) fun us s1 ⟨vs, H1, I1, rv, q⟩ => ?_) hs hpl))⟩
  obtain ⟨a, b, xs, ys, rfl, hx, hy, q⟩ := q
  cases rv with
  | cons r1 rv =>
    cases rv with
    | cons r2 rv =>
      cases rv
      cases r1
      cases r2
      obtain ⟨us, rx, px, _⟩ := I1.tuple hx
      obtain ⟨vs, ry, py, _⟩ := I1.list hy
      obtain ⟨oa, ea, _⟩ := id px
      refine zip_begins2 (begins_tuple a us.toArray) (begins_list b vs.toArray) px py.isList fun h' hz hT hO g1 g2 _ kp => wpAny_pyIter_zip hz ?_
      refine ⟨s1.heap.objs.size + 4, _, _, _, H1, rfl, I1.kept (t' := s1.toks) kp, turn_zipM (N := s1.heap.objs.size) (Heap.lt_size ea) py.lt, ⟨hz, hT, ⟨_, _, hO⟩, ⟨_, g1, rfl, rfl⟩, ⟨_, g2, rfl, rfl⟩⟩, fun c hc => ?_, q⟩
      have far : s1.heap.objs.size ≤ c := by
        simp only [List.mem_cons, List.not_mem_nil, or_false] at hc
        rcases hc with q | q | q | q | q
        · rw [q]; exact Nat.le_add_right _ 4
        · rw [q]; exact Nat.le_add_right _ 2
        · rw [q]; exact Nat.le_add_right _ 3
        · rw [q]; exact Nat.le_refl _
        · rw [q]; exact Nat.le_add_right _ 1
      exact I1.fpOk far (I1.hok.fresh far)
end DL
namespace DL
open PySem PySem.Spec PyProof.Rows L2
abbrev itO (a : Addr) : Obj := { cls := .type "tuple_iterator", data := .fields #[.ref a, .int 0 0] }
abbrev enO (N : Addr) : Obj := { cls := .type "enumerate", data := .fields #[.none, .bool false, .ref N, rawInt 0, .none, .none] }
/-- enumerate of what begins so -/
theorem enumNew {v : Value} {o : Obj} {B : Heap → Prop} (b : Begins v o B) : Meets (Builtin.«enumerate.__new__» ⟨[.type "enumerate", v], []⟩) (fun _ R s => B s.heap ∧ R (.ok (.ret (.ref (s.heap.push o).objs.size))) { s with heap := (s.heap.push o).push (enO s.heap.objs.size) }) :=
  .of_wp fun prog w A R s hyp => by
    obtain ⟨hp, gs, dr, tk, os⟩ := s
    obtain ⟨hb, hyp⟩ := hyp
    have isE := sub_enumerate
    have road : ∀ {A' : Around} {E : Value → Shared → Prop} {Q : Value → Shared → Prop}, Q (.ref hp.objs.size) ⟨hp.push o, gs, dr, tk, os⟩ → wpAny (model prog w) A' (pyIter v) Q E ⟨hp, gs, dr, tk, os⟩ := fun q => b.iter prog w _ _ ⟨hp, gs, dr, tk, os⟩ _ hb q
    wp_walk using road
    refine wpAny_stack_any (fun st => wpAny_pure ?_)
    split
    · rename_i c _ _ _ _ _
      cases (c == Value.type "enumerate") <;> (wp_walk using road; exact ⟨_, rfl, hyp⟩)
    · wp_walk using road
      exact ⟨_, rfl, hyp⟩
structure EtSt (a N : Addr) (i : Nat) (h : Heap) : Prop where
  e : ∃ old, IsEnum h (N + 1) N (0 + (i : Int)) old
  it : h.IsTupleIter N a i
theorem turn_enumT {P : Program} {w : World} {K : PySem.W.Frag} {elts : List Expr} {kk : Nat} {tpos : Pos} {a N : Addr} (ha : a < N) : Turn P w K (.Tuple elts kk tpos) (IteT K a) [N + 1, N] (N + 1) (EtSt a N) where
  mem := by simp
  obj := fun i h st c hc => by
    obtain ⟨⟨old, he⟩, ⟨o1, e1, _, d1⟩⟩ := st
    simp only [List.mem_cons, List.not_mem_nil, or_false] at hc
    rcases hc with rfl | rfl
    · exact ⟨_, he, fun v q => nomatch q⟩
    · exact ⟨_, e1, fun v q => by rw [d1] at q; cases q⟩
  keep := fun i h h' st k => ⟨let ⟨old, q⟩ := st.e; ⟨old, k _ (by simp) _ q⟩, st.it.at fun o q => k _ (by simp) o q⟩
  item := by
    intro X eP ew eK hc i pins s σ H E II hf st hg
    subst eP ew eK
    obtain ⟨xs, x, hx, ex⟩ := hg
    obtain ⟨us, rx, px, _⟩ := II.tuple hx
    have hh : X.A.in1.handled = none := II.ok.hd hc
    have ne1 : (N + 1 : Nat) ≠ N := Nat.succ_ne_self N
    have W := GoesN.enumFrom (elts := elts) (x1 := kk) (pos := tpos) 0 (Draws.tuple (prog := X.prog) (w := X.w) (A := X.A.in1) hh N a (Nat.ne_of_lt ha) us.toArray) (N + 1) ne1 (fun z => by
      rcases List.mem_cons.mp z with q | q
      · exact ne1 q
      · have q : (N + 1 : Nat) = a := by simpa using q
        exact absurd (Nat.lt_trans (Nat.lt_succ_self N) (q ▸ ha : (N + 1 : Nat) < N)) (Nat.lt_irrefl N)) (by simp)
    have lx := rx.length
    have i1 := (List.getElem?_eq_some_iff.mp ex).1
    obtain ⟨old, he⟩ := st.e
    have lz : N + 1 < s.heap.objs.size := Heap.lt_size he
    refine stepNew (J := IteT X.K a) (tn := EtSt a N) W (fun c hc => hc) II hf (fun c hc => ?_) (by simp; omega) ⟨⟨old, he⟩, st.it, px⟩ fun v h' hY st' kp => ?_
    · simp only [List.mem_cons, List.not_mem_nil, or_false] at hc
      rcases hc with q | q
      · rw [q]; exact lz
      · rw [q]; exact Nat.lt_trans (Nat.lt_succ_self N) lz
    · obtain ⟨T, t, u1, rfl, hT, p1, tup⟩ := hY
      obtain ⟨w1, hw1, r1⟩ := rx.get ex
      have p1 : us.toArray[i]? = some u1 := p1
      have q1 : w1 = u1 := Option.some.inj (hw1.symm.trans (by simpa using p1))
      subst q1
      obtain ⟨z1, z2⟩ := st'
      exact ⟨T, [.int (i : Nat), x], [.int (0 + (i : Int)) t, w1], rfl, hT, .cons ⟨t, by rw [Int.zero_add]⟩ (.cons r1 .nil), by simp, tup, ⟨T, x, rfl, II.hok.fresh hT, rfl, fun l hl => by rw [II.tuple_inj hl hx]; exact ex⟩, ⟨z1, z2.1⟩⟩
  done := by
    intro X eP ew eK hc i pins s σ H E II hf st hg
    subst eP ew eK
    obtain ⟨xs, hx, hi⟩ := hg
    obtain ⟨us, rx, px, _⟩ := II.tuple hx
    have hh : X.A.in1.handled = none := II.ok.hd hc
    have ne1 : (N + 1 : Nat) ≠ N := Nat.succ_ne_self N
    have W := GoesN.enumFrom (elts := elts) (x1 := kk) (pos := tpos) 0 (Draws.tuple (prog := X.prog) (w := X.w) (A := X.A.in1) hh N a (Nat.ne_of_lt ha) us.toArray) (N + 1) ne1 (fun z => by
      rcases List.mem_cons.mp z with q | q
      · exact ne1 q
      · have q : (N + 1 : Nat) = a := by simpa using q
        exact absurd (Nat.lt_trans (Nat.lt_succ_self N) (q ▸ ha : (N + 1 : Nat) < N)) (Nat.lt_irrefl N)) (by simp)
    have lx := rx.length
    have e1 : i = us.toArray.size := by simp; omega
    exact stopNew W (fun c hc => hc) II hf (by rw [← e1]; exact ⟨st.e, st.it, px⟩)
  self := fun A i s Q E st h => let ⟨_, he⟩ := st.e; wpAny_pyIter_enum he h
theorem pi_enumT' {X : Cx} {e : Expr} {ta : TA} {p pos tpos : Pos} {elts : List Expr} {kk : Nat} (hg : Gl X "enumerate") (hm : X.mg "enumerate" = none) (ha : PA X [e] ta) (hs : starEach [e] X.env = [(false, eval e X.env)] := by rfl) :
    PI X (.Tuple elts kk tpos) (.Call (.Name "enumerate" p) [e] [] pos) (iEnumT X.K ta) := by
  refine ⟨fun pins s σ H R II hr => Call_ (ld_blt II hg hm boot_enumerate (PyProof.Rows.callWith_type1 (thn (ha.run pos pins s σ H _ II hr) fun us s1 ⟨vs, H1, I1, rv, q⟩ => ?_) hs rfl))⟩
  obtain ⟨a, xs, rfl, hx, q⟩ := q
  cases rv with
  | cons r1 rv =>
    cases rv
    cases r1
    obtain ⟨us, rx, px, _⟩ := I1.tuple hx
    obtain ⟨oa, ea, _⟩ := id px
    refine callType_new F.called_enumerate (by decide) (F.typeCall_enumerate_1 _) (F.newCall_enumerate_1 _) (fun obj => F.args_object_init_2 obj _) F.entry_enumerate_new (enumNew (begins_tuple a us.toArray)) ⟨px, ?_⟩
    have z1 : (s1.heap.push (itO a)).objs.size = s1.heap.objs.size + 1 := Heap.size_push ..
    have g2 : ((s1.heap.push (itO a)).push (enO s1.heap.objs.size)).get? (s1.heap.objs.size + 1) = some (enO s1.heap.objs.size) := by
      have := Heap.get?_push_size (s1.heap.push (itO a)) (o := enO s1.heap.objs.size) rfl
      rw [z1] at this; exact this
    have g1 : ((s1.heap.push (itO a)).push (enO s1.heap.objs.size)).get? s1.heap.objs.size = some (itO a) := Heap.get?_push_of_some _ (Heap.get?_push_size _ rfl)
    show _ ∧ _
    rw [z1]
    refine ⟨⟨_, g2, rfl⟩, wpAny_pyIter_enum (old := .none) g2 ?_⟩
    refine ⟨s1.heap.objs.size + 1, _, _, _, H1, rfl, I1.kept (t' := s1.toks) fun b o q => Heap.get?_push_of_some _ (Heap.get?_push_of_some _ q), turn_enumT (N := s1.heap.objs.size) (Heap.lt_size ea), ⟨⟨.none, by rw [show (0 : Int) + ((0 : Nat) : Int) = 0 from rfl]; exact g2⟩, ⟨_, g1, rfl, rfl⟩⟩, fun c hc => ?_, q⟩
    have far : s1.heap.objs.size ≤ c := by
      simp only [List.mem_cons, List.not_mem_nil, or_false] at hc
      rcases hc with q | q
      · rw [q]; exact Nat.le_add_right _ 1
      · rw [q]; exact Nat.le_refl _
    exact I1.fpOk far (I1.hok.fresh far)
end DL
/-! an exception class of the program: its __init__ calls super's and sets one field -/
namespace DL
open PySem PySem.Spec PyProof.Rows L2
/-- ValueError's __init__, held for the exception at e -/
theorem call_mwV {P : Program} {w : World} {A : Around} {F : Value → Shared → Prop} {s : Shared} {n qn : Str} {C M u e a : Addr} {bases mro subs xs : List Value} {hd ab : Bool} {sn : List Str} {co : Option Bool} {od : Option Addr} {v0 v1 v2 v3 v5 : Option Value} {R : Value → Shared → Prop}
    (cls : s.heap.get? C = some (excClassObj n qn C M bases mro hd sn subs ab co od v0 v1 v2 v3 v5 "ValueError.__new__")) (exc : s.heap.get? e = some (HandSPX.excO C a)) (bnd : s.heap.get? u = some (W.kxs_mw "ValueError.__init__" e)) (sz : xs.length ≤ sizeLine)
    (k : ∀ h b, (∀ x o, x ≠ e → s.heap.get? x = some o → h.get? x = some o) → h.get? e = some (HandSPX.excO C b) → R .none { s with heap := h }) : wpAny (model P w) A (call (.ref u) xs) R F s := by
  have V := PySem.F.excBase_ValueError
  obtain ⟨hp, gs, dr, tk, os⟩ := s
  refine wpAny_call (codeAny_of_tree (?_ : wpAny _ A.in1 (callAny (.ref u) ⟨xs, []⟩) _ _ _))
  unfold callAny
  refine wpAny_bind (wpAny_load bnd (W.KFB.if_so (by rfl) (wpAny_bind (ESX.check_bound V cls exc rfl (wpAny_bind (wpAny_pure (wpAny_pure ⟨Code.quiet_builtin _ (by decide +kernel), codeAny_builtin V.initEntry ?_⟩)))))))
  rw [Around.under_plainId V.init.plain _]
  exact W.exc_init_tree exc sz fun h k1 k2 _ => k h _ k1 k2
def cxI (CX : CXT) (P : Program) (w : World) (K : PySem.W.Frag) (mg : Str → Option Value) (base : Heap) (N : List Str) (qual : Str) (scope : Scope) (f cc : Addr) (cd : Value) (A : Around) (outer : List Env) (s : Shared) (H : Hp) (E : XK) : Cx where
  prog := P
  w := w
  K := K
  mg := mg
  base := base
  A := A.deeper (PySem.W.ksEnv qual scope s.heap.objs.size f cd cc)
  N := N
  s_0 := s
  H_0 := H
  env := PySem.W.ksEnv qual scope s.heap.objs.size f cd cc
  outer := outer
  stack := PySem.W.ksEnv qual scope s.heap.objs.size f cd cc :: outer
  ex := []
  calm := true
  fn := fun _ => false
  pn := []
  xe := fun e s' => wpAny (model P w) (A.deeper (PySem.W.ksEnv qual scope s.heap.objs.size f cd cc)) (leaving (PySem.W.ksEnv qual scope s.heap.objs.size f cd cc) e) (fun _ s'' => CX outer H s E e s'') (fun e' s'' => CX outer H s E e' s'') s'
/-- the names of such an __init__ -/
structure InitS (scope : Scope) : Prop where
  kind : scope.kind = .function
  noCo : scope.isCoroutine = false
  noGen : scope.isGenerator = false
  self : scope.names.lookup ("self" : Str) = some .local
  at_ : scope.names.lookup ("at" : Str) = some .local
  nocell : ∀ x ∈ scope.names, x.2 ≠ .cell
  free : ∀ y ∈ scope.names, y.2 = .free → y.1 = ("__class__" : Str)
  sup : scope.names.lookup ("super" : Str) = some .globalImplicit
  cls : scope.names.lookup ("__class__" : Str) = some .free
section
variable {P : Program} {w : World} {K : PySem.W.Frag} {mg : Str → Option Value} {base : Heap} {CX : CXT}
theorem inv_startI {qual : Str} {scope : Scope} {f cc : Addr} {cd : Value} {A : Around} {outer : List Env} {s : Shared} {H : Hp} {E : XK} {x v : V} {ux uv : Value} {h₁ : Heap} {tk : Nat} (S : InitS scope) (hd : A.handled = none) (e0 : Env0 P w K mg base A outer s H)
    (hcc : ∃ c o sl v, base.get? cc = some ⟨c, o, .cell v, sl⟩)
    (hns : h₁.Ns s.heap.objs.size fun y => ([("self", ux), ("at", uv)] : List (Str × Value)).reverse.lookup y) (kp : ∀ b o, s.heap.get? b = some o → h₁.get? b = some o) (rx : RelV x ux) (rv : RelV v uv) :
    Inv (cxI CX P w K mg base ["self", "at"] qual scope f cc cd A outer s H E) [] [some x, some v] H { s with heap := h₁, toks := tk } := by
  have noA : ∀ b : Addr, b ∉ (cxI CX P w K mg base ["self", "at"] qual scope f cc cd A outer s H E).ex := fun b z => absurd (show b ∈ ([] : List Addr) from z) (by simp)
  have lk : ∀ {y : Str} {c : Addr}, (PySem.W.ksEnv qual scope s.heap.objs.size f cd cc).cells.lookup y = some c → y = "__class__" ∧ c = cc := fun {y c} e => by
    have e : List.lookup y [(("__class__" : Str), cc)] = some c := e
    rw [List.lookup] at e
    split at e
    · rename_i z
      exact ⟨by simpa using z, (Option.some.inj e).symm⟩
    · cases e
  obtain ⟨c0, o0, sl0, v0, hc0⟩ := hcc
  refine ⟨⟨e0.mod, S.kind, rfl, rfl, Nat.le_refl _, fun y z c h1 h2 => (lk h1).1.trans (lk h2).1.symm, fun y hy => ?_, fun y c z _ => ?_, fun _ => hd, Around.frames_deeper e0.frames, .inr ⟨rfl, rfl⟩, fun b z => absurd z (noA b), e0.bs, e0.bsz, fun b _ _ => noA b, fun b z => absurd z (noA b), e0.funs, e0.frf⟩,
    rfl, e0.bare, Un.kept kp, ⟨_, hns, fun i y u h1 h2 h3 => ?_⟩, fun y c h => ?_, e0.hok.fresh (Nat.le_refl _), fun y c h => ?_, fun p hp => absurd (show p ∈ ([] : List (Addr × Obj)) from hp) (by simp), e0.hok.kept kp, rfl⟩
  · change scope.names.lookup y = some .cell ∨ scope.names.lookup y = some .free at hy
    rcases hy with hy | hy
    · exact (S.nocell _ (PySem.mem_of_lookup hy) rfl).elim
    · have := S.free _ (PySem.mem_of_lookup hy) rfl
      dsimp only at this
      subst this
      exact ⟨cc, rfl⟩
  · have z : false = true := z
    cases z
  · match i, h1, h2 with
    | 0, h1, h2 =>
      cases h1
      cases h2
      exact ⟨ux, rx, .inl ⟨S.self, rfl⟩⟩
    | 1, h1, h2 =>
      cases h1
      cases h2
      exact ⟨uv, rv, .inl ⟨S.at_, rfl⟩⟩
    | (j + 2), h1, h2 => cases h1
  · obtain ⟨rfl, rfl⟩ := lk h
    exact ⟨v0, ⟨_, kp _ _ (e0.bs _ _ hc0).1, rfl⟩⟩
  · obtain ⟨rfl, rfl⟩ := lk h
    exact (e0.bs _ _ hc0).2
end
end DL
/-! the __init__ of the refusal keeps its promise -/
namespace DL
open PySem PySem.Spec PyProof.Rows L2
section
variable {P : Program} {w : World} {K : PySem.W.Frag} {mg : Str → Option Value} {base : Heap} {CX : CXT}
/-- what __init__(self, at) promises -/
def spI (K : PySem.W.Frag) (C : Addr) : Sp := fun vs H Q _ => ∃ (a : Addr) (v : V), vs = [.ref a, v] ∧ H a = some (exo a C none) ∧ ∀ dx, H dx = none → dx ≠ a → Q .non (upd (upd H dx (exd dx [("at", v)])) a (exo a C (some dx)))
theorem fn_init {k : Nat} {f cc cda C : Addr} {nm qual txt file : Str} {tf : Tok} {params : Arguments} {scope : Scope} {dV kV doc pm ct oc cl ccl : Value} {an od cld cdd : Option Addr} {osl csl ccs : Array (Option Value)} {vs0 : Array Value} {ar : Arg} {cdC : ClassData} {j : Nat} {q0 q1 q2 q3 q4 q5 q6 q7 q8 q9 : Pos}
    (lk : K.lookup f = some ⟨oc, od, .func (PySem.W.ksFn nm qual params [.Expr (.Call (.Attribute (.Call (.Name "super" q0) [] [] q1) "__init__" q2) [.Constant (.str txt) j q3] [] q4) q5, .Assign [.Attribute (.Name "self" q6) "at" q7] (.Name "at" q8) q9] scope dV kV doc pm an (.ref cda) ct cc), osl⟩)
    (hcd : PySem.W.codeIn K (.ref cda) qual = true) (S : InitS scope) (hp : (params.posonlyargs ++ params.args).head? = some ar) (har : ar.arg = "self")
    (hcode : K.lookup cda = some ⟨ccl, cdd, .fields vs0, ccs⟩) (hvs : vs0[2]? = some (.str file tf)) (hfile : ((P.main.file : Str) == file) = true) (htop : (P.main.scope.names.lookup ("super" : Str)).isSome = false)
    (hcell : K.lookup cc = some ⟨cl, cld, .cell (some (.ref C)), csl⟩) (kin : K.In base) (T : OexC K C) (hD : PySem.W.clsIn K C = some cdC) (hsub : PySem.W.mroIn K C (.ref C) = some true) (hsuper : mg "super" = none)
    (ho : PySem.W.nsIn K cStatics "thirdparty.any" = some none) (hm : PySem.W.ks_superIn K C C "__init__" = some (some (.builtin "ValueError.__init__"))) (hB : PySem.W.subIn K (.ref C) (.type "ValueError") = some true)
    (hno : PySem.W.findIn K (.ref C) "at" = some none) {pl : Sem Bool}
    (he : ∀ env : Env, eval (.Call (.Attribute (.Call (.Name "super" q0) [] [] q1) "__init__" q2) [.Constant (.str txt) j q3] [] q4) env = (do
      let ov ← attributeBase (.Call (.Name "super" q0) [] [] q1) "__init__" env (eval (.Call (.Name "super" q0) [] [] q1) env)
      standAt q2.atName
      let (g, own) ← holding [ov] (getMethod ov "__init__" pl)
      callWith q4 g own (backTo q4 (starEach [.Constant (.str txt) j q3] env)) [])) :
    FnOk P w K mg base CX (k + 1) f (PySem.W.ksFn nm qual params [.Expr (.Call (.Attribute (.Call (.Name "super" q0) [] [] q1) "__init__" q2) [.Constant (.str txt) j q3] [] q4) q5, .Assign [.Attribute (.Name "self" q6) "at" q7] (.Name "at" q8) q9] scope dV kV doc pm an (.ref cda) ct cc) ["self", "at"] (spI K C) := by
  refine ⟨fun vs H Q E ⟨a, v, e, _⟩ => by rw [e]; rfl, fun A outer s H args us vs Q E hr e0 hb r hsp => ?_⟩
  obtain ⟨a, v, rfl, ha, hq⟩ := hsp
  cases r with
  | @cons _ ux _ us' rx r =>
  cases r with
  | @cons _ uv _ us'' rv r =>
  cases r
  have kp0 : ∀ b o, base.get? b = some o → s.heap.get? b = some o := fun b o e => (e0.bs b o e).1
  have KX := e0.mod.kin.keeps kp0
  have lim := e0.mod.nolimit.keeps kp0
  refine PySem.ks_codeAny_call_defAt hr.depth (KX _ _ lk) rfl lim (PySem.W.codeRec_of KX hcd) rfl hb S.nocell (fun y hy => ?_) (fun h₁ hns kp => ?_) S.noCo S.noGen S.kind
  · obtain rfl | hy := List.mem_cons.mp hy
    · exact S.self
    · obtain rfl | hy := List.mem_cons.mp hy
      · exact S.at_
      · cases hy
  have I : Inv (cxI CX P w K mg base ["self", "at"] qual scope f cc (.ref cda) A outer s H E) [] [some (.ref a), some v] H { s with heap := h₁, toks := s.toks + (["self", "at"].zip [ux, uv]).length } :=
    inv_startI S hr.hd e0 ⟨_, _, _, _, kin _ _ hcell⟩ hns kp rx rv
  obtain rfl : ux = Value.ref a := rx
  show _root_.PySem.wpAt (model P w) (cxI CX P w K mg base ["self", "at"] qual scope f cc (.ref cda) A outer s H E).A (.func _ (cxI CX P w K mg base ["self", "at"] qual scope f cc (.ref cda) A outer s H E).env) _ _ (cxI CX P w K mg base ["self", "at"] qual scope f cc (.ref cda) A outer s H E).xe _
  obtain ⟨nmC, qC, NC, bs, bm, sn, sub, ab, col, dd, k0, k1, k2, k3, k5, hC, hbm⟩ := T.cls
  obtain ⟨oD, hD1, hD2⟩ : ∃ oD, K.lookup C = some oD ∧ oD.data = .cls cdC := by
    unfold PySem.W.clsIn at hD
    split at hD
    · rename_i c d cd' sl ho
      cases hD
      exact ⟨_, ho, rfl⟩
    · cases hD
  obtain ⟨t1, hx⟩ := exo_at I.hok ha
  have hneC : a ≠ C := fun z => by
    have e1 := I.kIn _ _ hC
    rw [← z, hx] at e1
    cases e1
  refine PySem.ks_wpAt_execs_cons (PySem.ks_wpAt_Expr_any (PySem.ks_wpAt_MethodCall ?_ (he _)) I.quiet (by rfl))
  refine PySem.ks_wpAt_super_base S.sup S.cls (by decide) rfl (I.kIn _ _ lk) rfl hp rfl (I.kIn _ _ hcode) rfl hvs hfile htop ?_
  obtain ⟨mb, b1, b2⟩ := I.mod.blt
  refine PySem.W.ks_loadName_global S.kind S.sup (Calls.loadGlobal_builtin (I.mod.glob.keeps I.bk) hsuper (b1.keeps I.bk) ((b2 "super" (by decide)).trans (by decide +kernel)) ⟨rfl, ?_⟩)
  refine wpAny_loadName_free S.kind S.cls rfl ⟨_, I.kIn _ _ hcell, rfl⟩ ?_
  rw [har]
  refine wpAny_loadName_local S.kind S.self hns rfl ?_
  refine PySem.ks_wpAny_isType_cls (I.kIn _ _ hD1) hD2 ⟨rfl, ?_⟩
  refine PySem.ks_wpAny_call_super (I.kIn _ _ hD1) hD2 hx rfl (fun c e => by cases e) (PySem.W.looks_mroIn I.kIn hsub) (fun h2 hso k2 => ?_)
  have I2 := I.kept (t' := s.toks + (["self", "at"].zip [Value.ref a, uv]).length) k2
  have hx2 := k2 _ _ hx
  have hsub2 : PySem.W.Looks (model P w) h2 (isInstance (.ref a) (.type "ValueError")) true := by
    have IA : PySem.W.InstAt h2 a _ C none := ⟨hx2, rfl, rfl, trivial⟩
    exact IA.type.andThen (PySem.W.looks_subIn I2.kIn hB)
  unfold PySem.W.ks_superIn at hm
  rw [hD] at hm
  refine PySem.W.kxs_getMethod PySem.W.kxs_ValueError hso (PySem.W.looks_opaque I2.kIn ho) (l₀ := cdC.mro) (fun A Q E s k q => wpAny_bind ((PySem.W.looks_clsIn I2.kIn hD) A _ E s k (wpAny_pure q))) rfl I2.kIn hm hsub2 hneC (by decide) ?_
  have I3 := I2.kept (h' := h2.push (PySem.W.kxs_mw "ValueError.__init__" a)) (t' := s.toks + (["self", "at"].zip [Value.ref a, uv]).length + 1) (fun b o e => Heap.get?_push_of_some _ e)
  refine PySem.W.kxs_callWith (i := "ValueError.__init__") (x := a) (by rfl) (Calls.evalArgs_plain ?_)
  refine Calls.spliced_cons (Calls.Constant_str (k := j) (pos := q3) (Calls.spliced_nil ⟨Heap.get?_push_size _ rfl, ?_⟩))
  refine call_mwV (I3.kIn _ _ hC) (Heap.get?_push_of_some _ hx2) (Heap.get?_push_size _ rfl) (by rw [sizeLine_eq]; show 1 ≤ _; decide) fun h4 t4 k4 hx4 => ?_
  have I4 := I3.write (t' := s.toks + (["self", "at"].zip [Value.ref a, uv]).length + 1 + 1) (x := a) (e := a) (o := exo a C none) (by rw [ha]; exact True.intro) (.inl rfl) k4 ⟨_, hx4⟩ (exo_ok hx4)
  have same : upd H a (exo a C none) = H := by
    funext b
    by_cases hb : b = a
    · rw [hb, upd_same, ha]
    · rw [upd_ne hb]
  rw [same] at I4
  have hs : PSs (cxI CX P w K mg base ["self", "at"] qual scope f cc (.ref cda) A outer s H E) [.Assign [.Attribute (.Name "self" q6) "at" q7] (.Name "at" q8) q9] _ := pss_one (ps_ost (pe_var (i := 0) rfl (.inl S.self)) (pe_var (i := 1) rfl (.inl S.at_)))
  refine wpAt_of_wpAny (wpAny_mono (hs.run [] _ _ H { nx := fun _ H' => Q .non H', rt := Q } I4 ⟨v, rfl, .ref a, rfl, a, C, rfl, T, hno, .inl ⟨ha, hq⟩⟩) (fun fl s' hs => ?_) fun e s' hs => hs)
  match fl, hs with
  | .ret _, ⟨z, _, H1, J, rz, q⟩ => exact ⟨z, H1, J.os, J.bare, J.base, J.hok, rz, q⟩
  | .next, ⟨_, H1, J, q⟩ => exact ⟨.non, H1, J.os, J.bare, J.base, J.hok, rfl, q⟩
  | .brk, ⟨_, _, _, q⟩ => exact q.elim
  | .cont, ⟨_, _, _, q⟩ => exact q.elim
end
end DL
/-! the text's facts; rules of our own -/
namespace DL
open PySem PySem.Spec PyProof.Rows L2
abbrev PG : Program := PySem.Challenge.pw_outsoonest_k15_whole_greatest_flows_and
/-- keywords alone, in the parameters' order turned -/
def revK {α : Type} : List α → List α → List α
  | [], ws => ws.reverse
  | _ :: _, _ => []
structure FnT (K : PySem.W.Frag) (mg : Str → Option Value) (x : Str) (st : Stmt) (ps : List Str) where
  f : Addr
  fd : FuncData
  F : Fun K x x st f fd
  b : Binds K fd ps []
  g : mg x = some (.ref f)
/-- the class Refused -/
structure RefC (K : PySem.W.Frag) (mg : Str → Option Value) (C : Addr) : Prop where
  g : mg "Refused" = some (.ref C)
  kind : OexC K C
  init : ∃ (fI : Addr) (fdI : FuncData), PySem.W.findIn K (.ref C) "__init__" = some (some (.ref fI)) ∧ PySem.W.typeIn K (.ref fI) = some (.type "function") ∧ Binds K fdI ["self", "at"] [] ∧ ∀ (w : World) (base : Heap) (CX : CXT), FnOk PG w K mg base CX 1 fI fdI ["self", "at"] (spI K C)
structure Txt (K : PySem.W.Frag) (mg : Str → Option Value) where
  f_is_integer : FnT K mg "is_integer" (topS 4) ["value"]
  f_is_number : FnT K mg "is_number" (topS 5) ["value"]
  f_is_below : FnT K mg "is_below" (topS 6) ["value", "most"]
  f_is_sequence : FnT K mg "is_sequence" (topS 7) ["value"]
  f_is_ascending : FnT K mg "is_ascending" (topS 8) ["value"]
  f_is_lot : FnT K mg "is_lot" (topS 9) ["value", "most"]
  f_is_arc : FnT K mg "is_arc" (topS 14) ["many", "value"]
  f_check_net : FnT K mg "check_net" (topS 15) ["value"]
  f_need_node : FnT K mg "need_node" (topS 16) ["many", "value"]
  f_need_ends : FnT K mg "need_ends" (topS 17) ["many", "start", "ends"]
  f_need_pair : FnT K mg "need_pair" (topS 18) ["many", "start", "goal"]
  f_are_borne : FnT K mg "are_borne" (topS 19) ["arcs", "value"]
  f_need_load : FnT K mg "need_load" (topS 20) ["arcs", "value"]
  f_surplus : FnT K mg "surplus" (topS 21) ["many", "arcs", "load"]
  f_no_flow : FnT K mg "no_flow" (topS 22) ["net"]
  f_fits : FnT K mg "fits" (topS 23) ["many", "arcs", "ends", "value"]
  f_flow_fits : FnT K mg "flow_fits" (topS 24) ["net", "start", "goal", "value"]
  f_need_fit : FnT K mg "need_fit" (topS 25) ["net", "start", "goal", "value"]
  f_worth : FnT K mg "worth" (topS 26) ["net", "start", "goal", "flow"]
  f_cut_worth : FnT K mg "cut_worth" (topS 27) ["net", "lot"]
  f_left_of : FnT K mg "left_of" (topS 28) ["arcs", "load", "at", "way"]
  f_can_go : FnT K mg "can_go" (topS 29) ["arcs", "load", "at", "way"]
  f_side_of : FnT K mg "side_of" (topS 30) ["arcs", "step"]
  f_leads_of : FnT K mg "leads_of" (topS 31) ["many", "arcs"]
  f_come_by : FnT K mg "come_by" (topS 32) ["leads", "arcs", "load", "start"]
  f_traced : FnT K mg "traced" (topS 33) ["arcs", "found", "node"]
  f_walk : FnT K mg "walk" (topS 34) ["net", "flow", "start", "ends"]
  f_reached : FnT K mg "reached" (topS 35) ["net", "flow", "start"]
  f_reaching : FnT K mg "reaching" (topS 36) ["net", "flow", "goal"]
  f_least_left : FnT K mg "least_left" (topS 37) ["arcs", "load", "steps"]
  f_gone : FnT K mg "gone" (topS 38) ["load", "steps", "many"]
  f_led_by : FnT K mg "led_by" (topS 39) ["many", "arcs", "start", "goals", "flow"]
  f_led_on : FnT K mg "led_on" (topS 40) ["net", "start", "goal", "flow"]
  f_greatest : FnT K mg "greatest" (topS 41) ["net", "start", "goal"]
  f_cuts : FnT K mg "cuts" (topS 42) ["net", "start", "goal"]
  f_law_box : FnT K mg "_law_box" (topS 44) ["_law_script", "_law_k"]
  f_law_take : FnT K mg "_law_take" (topS 45) ["_law_box_here", "_law_many"]
  f_law_pick : FnT K mg "_law_pick" (topS 46) ["_law_box_here", "_law_some"]
  f_law_heard : FnT K mg "_law_heard" (topS 47) ["_law_ask"]
  f_law_net : FnT K mg "_law_net" (topS 48) ["_law_box_here", "_law_nodes", "_law_most"]
  f_law_gone : FnT K mg "_law_gone" (topS 49) ["_law_box_here", "_law_net_here", "_law_load", "_law_start_here", "_law_goal"]
  f_law_flow : FnT K mg "_law_flow" (topS 50) ["_law_box_here", "_law_net_here", "_law_start_here", "_law_goal"]
  f_law_more : FnT K mg "_law_more" (topS 51) ["_law_net_here", "_law_load", "_law_node"]
  f_law_is_load : FnT K mg "_law_is_load" (topS 52) ["_law_net_here", "_law_value"]
  f_law_is_flow : FnT K mg "_law_is_flow" (topS 53) ["_law_net_here", "_law_start_here", "_law_goal", "_law_value"]
  f_law_worth : FnT K mg "_law_worth" (topS 54) ["_law_net_here", "_law_lot"]
  f_law_lots : FnT K mg "_law_lots" (topS 55) ["_law_net_here", "_law_start_here", "_law_ends"]
  f_law_best : FnT K mg "_law_best" (topS 56) ["_law_lots_here"]
  f_law_cuts_right : FnT K mg "_law_cuts_right" (topS 57) ["_law_net_here", "_law_handed", "_law_start_here", "_law_goal", "_law_lots_here", "_law_best_here"]
  f_law_is_best : FnT K mg "_law_is_best" (topS 58) ["_law_net_here", "_law_start_here", "_law_goal", "_law_best_here", "_law_told"]
  f_law_led_right : FnT K mg "_law_led_right" (topS 59) ["_law_box_here", "_law_net_here", "_law_handed", "_law_start_here", "_law_goal", "_law_best_here"]
  f_law_none_right : FnT K mg "_law_none_right" (topS 60) ["_law_box_here", "_law_net_here"]
  f_law_near : FnT K mg "_law_near" (topS 61) ["_law_net_here", "_law_load", "_law_start_here"]
  f_law_many_right : FnT K mg "_law_many_right" (topS 62) ["_law_box_here"]
  f_law : FnT K mg "law" (topS 63) ["_law_script"]
  mg_isinstance : mg "isinstance" = none
  mg_all : mg "all" = none
  mg_sum : mg "sum" = none
  mg_min : mg "min" = none
  mg_sorted : mg "sorted" = none
  mg_abs : mg "abs" = none
  mg_range : mg "range" = none
  mg_zip : mg "zip" = none
  mg_enumerate : mg "enumerate" = none
  mg_tuple : mg "tuple" = none
  mg_list : mg "list" = none
  mg_int : mg "int" = none
  mg_bool : mg "bool" = none
  mg_len : mg "len" = none
  mg_repr : mg "repr" = none
  k_BACK : Tok
  mg_BACK : mg "BACK" = some (.int (-1) k_BACK)
  k_FORTH : Tok
  mg_FORTH : mg "FORTH" = some (.int (1) k_FORTH)
  k_MOST_NODES : Tok
  mg_MOST_NODES : mg "MOST_NODES" = some (.int (2000) k_MOST_NODES)
  kb_greatest : KBinds K f_greatest.fd ["net", "start", "goal"] ["goal", "start", "net"] revK revK
  kb_cuts : KBinds K f_cuts.fd ["net", "start", "goal"] ["goal", "start", "net"] revK revK
  kb_led_on : KBinds K f_led_on.fd ["net", "start", "goal", "flow"] ["flow", "goal", "start", "net"] revK revK
  C : Addr
  ref : RefC K mg C
section
variable {X : Cx} {P : Program} {w : World} {K : PySem.W.Frag} {mg : Str → Option Value} {base : Heap}
theorem op_repZ : OpR X (binaryOp .Mult) (rRepZ X.K) := op_repZ'
theorem pi_zipM {e e2 : Expr} {ta : TA} {p pos tpos : Pos} {elts : List Expr} {kk : Nat} (hg : Gl X "zip") (hm : X.mg "zip" = none) (ha : PA X [e, e2] ta)
    (hs : starEach [e, e2] X.env = (false, eval e X.env) :: starEach [e2] X.env := by rfl)
    (hpl : (backTo pos (starEach [e2] X.env)).any (·.1) = false := by rfl) :
    PI X (.Tuple elts kk tpos) (.Call (.Name "zip" p) [e, e2] [] pos) (iZipM X.K ta) := pi_zipM' hg hm ha hs hpl
theorem pi_zipS {e e2 : Expr} {ta : TA} {p pos tpos : Pos} {elts : List Expr} {kk : Nat} (hg : Gl X "zip") (hm : X.mg "zip" = none) (ha : PA X [e, e2] ta)
    (hs : starEach [e, e2] X.env = (false, eval e X.env) :: starEach [e2] X.env := by rfl)
    (hpl : (backTo pos (starEach [e2] X.env)).any (·.1) = false := by rfl) :
    PI X (.Tuple elts kk tpos) (.Call (.Name "zip" p) [e, e2] [] pos) (iZipS X.K ta) :=
  ⟨fun pins s σ H R I h => h.elim (fun q => (RZ.pi_zipA hg hm ha hs hpl).run pins s σ H R I q) fun q => (pi_zipM hg hm ha hs hpl).run pins s σ H R I q⟩
theorem pi_enumT {e : Expr} {ta : TA} {p pos tpos : Pos} {elts : List Expr} {kk : Nat} (hg : Gl X "enumerate") (hm : X.mg "enumerate" = none) (ha : PA X [e] ta) (hs : starEach [e] X.env = [(false, eval e X.env)] := by rfl) :
    PI X (.Tuple elts kk tpos) (.Call (.Name "enumerate" p) [e] [] pos) (iEnumT X.K ta) := pi_enumT' hg hm ha hs
theorem ps_raiseR {k : Nat} {E : XK} {e : Expr} {te : TE} {p p1 p2 : Pos} {C : Addr} (hC : RefC X.K X.mg C) (hr : Room (k + 2) X.A) (tk : Takes X fun cls d _ H => E cls d H) (he : PE X e te) (hP : X.prog = PG := by rfl) (hc : X.calm = true := by rfl) (hg : Gl X "Refused" := by rfl)
    (hs : starEach [e] X.env = (false, eval e X.env) :: starEach [] X.env := by rfl) (hpl : (backTo p1 (starEach [] X.env)).any (·.1) = false := by rfl) :
    PS X (.Raise (some (.Call (.Name "Refused" p) [e] [] p1)) none p2) (tRaiseR C E te) := by
  obtain ⟨fI, fdI, i1, i2, i3, i4⟩ := hC.init
  have F1 : FnOk X.prog X.w X.K X.mg X.base C8.CX0 1 fI fdI ["self", "at"] (spI X.K C) := by rw [hP]; exact i4 _ _ _
  have he' : PE X e (fun σ H Q => ∃ Q0 : VK, te σ H Q0 ∧ ∀ v H1, Q0 v H1 → Q v H1) := ⟨fun pins s σ H Q I ⟨Q0, q1, q2⟩ => thn (he.run pins s σ H Q0 I q1) fun u s' ⟨v, H', J, rv, q⟩ => ⟨v, H', J, rv, q2 _ _ q⟩⟩
  have h := ps_raise (pos := p2) hc tk (pmk_oex (p := p) (pos := p1) hC.kind i1 i2 F1 (hr.mono (by omega)) i3 .nil C8.pass0 hg hC.g (pa_cons he' pa_nil hs) (by decide) hs hpl)
  refine ⟨fun pins s σ H D I q => h.run pins s σ H D I ⟨_, q, fun v H1 q => ⟨by show 1 ≤ 1000; omega, fun a na => ⟨a, v, rfl, upd_same, fun dx nd ne => ⟨rfl, dx, [("at", v)], upd_same, by rw [upd_ne ne, upd_same], ?_, ?_⟩⟩⟩⟩⟩
  · rw [upd_ne ne] at nd
    exact nd
  · have e : upd (del (upd (upd (upd H1 a (exo a C none)) dx (exd dx [("at", v)])) a (exo a C (some dx))) a) dx (.xd [("at", v)]) = upd H1 dx (.xd [("at", v)]) := by
      funext b
      by_cases hb : b = dx
      · rw [hb, upd_same, upd_same]
      · rw [upd_ne hb, upd_ne hb]
        by_cases ha : b = a
        · rw [ha, del_same]
          exact na.symm
        · rw [del_ne ha, upd_ne ha, upd_ne hb, upd_ne ha]
    rw [e]
    rw [upd_ne ne] at nd
    exact q dx nd
theorem pe_callR {CX : CXT} {k : Nat} {f : Addr} {fd : FuncData} {ps ks : List Str} {sp : Sp} {E : XK} {x : Str} {p pos : Pos} {kws : List Keyword} {tk : TA} (F : FnOk X.prog X.w X.K X.mg X.base CX k f fd ps sp) (hr : Room k X.A) (hg : Gl X x) (hm : X.mg x = some (.ref f))
    (hk : PySem.W.keepIn X.K (.ref f) = true) (hb : KBinds X.K fd ps ks revK revK) (hx : Passes CX X E) (hkw : PK X kws tk) (hall : (backToKw pos (keywordEach kws X.env)).all (·.1.isSome) = true := by rfl)
    (hks : (backToKw pos (keywordEach kws X.env)).filterMap (·.1) = ks := by rfl) (hdb : (x == ("__debug__" : Str)) = false := by decide) (hpl : ((backTo pos (starEach [] X.env)).any (·.1) || (backToKw pos (keywordEach kws X.env)).any (·.1.isNone)) = false := by rfl) :
    PE X (.Call (.Name x p) [] kws pos) (tCallR sp E tk) :=
  ⟨fun pins s σ H Q I h => wpAny_Call_Name_kw (ld_glob I hg hm (PySem.W.callWith_KW0 (h₀ := X.base) I.ok.mod.kin hk hall (thn (hkw.run pos pins s σ H _ I h) fun ws s2 ⟨zs, H2, I2, rz, q2⟩ => ⟨I2.kIn, by rw [hks]; exact run_fnk (us := []) (vs := []) F hr hb hx I2 .nil rz q2⟩) hpl) hdb)⟩
theorem pe_disp1 {k v : Expr} {tk tv : TE} {pos : Pos} (hk : PE X k tk) (hv : PE X v tv) : PE X (.Dict [some k] [v] pos) (tDisp [(tk, tv)]) := pe_disp (pps_cons hk hv pps_nil) rfl rfl (by simp) (by simp)
end
end DL
/-! printed by gen.py: scopes, readings, derivations -/
namespace DL
open PySem PySem.Spec PyProof.Rows L2
section
variable {w : World} {K : PySem.W.Frag} {mg : Str → Option Value} {base : Heap}
abbrev s_is_integer : Stmt := topS 4
theorem sc_is_integer : FnScope ["value"] ["value"] (defScope s_is_integer) := ⟨rfl, rfl, rfl, by decide +kernel, rfl, by decide +kernel, by decide +kernel⟩
def t_is_integer (K : PySem.W.Frag) (C : Addr) (E : XK) : TS :=
    (tRet (tAndV (tCB (rIsi K) (tCons (tVar 0) (tCons (tC (.ty "int")) tNil))) (tNotV (tCB (rIsi K) (tCons (tVar 0) (tCons (tC (.ty "bool")) tNil))))))
theorem d_is_integer (T : Txt K mg)  (f : Addr) (cdv : Value) (A : Around) (outer : List Env) (s : Shared) (H : Hp) (E : XK) (hr : Room 0 (A.deeper (envOfC "is_integer" (defScope s_is_integer) s.heap.objs.size f cdv))) :
    PSs (cxOf (L2.CX PG w) PG w K mg base ["value"] "is_integer" (defScope s_is_integer) f cdv A outer s H E).nox (defBody s_is_integer) (t_is_integer K T.C E) :=
    (pss_one (ps_ret (pe_and (pe_callB call_isi (by rfl) T.mg_isinstance bt_isinstance (pa_cons (pv 0) (pa_cons (pe_bltn (v := .ty "int") rfl T.mg_int bt_int rfl) pa_nil))) (pe_one (pe_not (pe_callB call_isi (by rfl) T.mg_isinstance bt_isinstance (pa_cons (pv 0) (pa_cons (pe_bltn (v := .ty "bool") rfl T.mg_bool bt_bool rfl) pa_nil))))))))
abbrev s_is_number : Stmt := topS 5
theorem sc_is_number : FnScope ["value"] ["value"] (defScope s_is_number) := ⟨rfl, rfl, rfl, by decide +kernel, rfl, by decide +kernel, by decide +kernel⟩
def t_is_number (K : PySem.W.Frag) (C : Addr) (E : XK) : TS :=
    (tRet (tAndV (tCall (sp_is_integer C) [] E0 (tCons (tVar 0) tNil)) (tOp (rI0 fun i j => .bl (decide (j ≤ i))) (tVar 0) (tC (.int 0)))))
theorem d_is_number (T : Txt K mg) (G_is_integer : FnOk PG w K mg base (L2.CX PG w) 1 T.f_is_integer.f T.f_is_integer.fd ["value"] (sp_is_integer T.C)) (f : Addr) (cdv : Value) (A : Around) (outer : List Env) (s : Shared) (H : Hp) (E : XK) (hr : Room 1 (A.deeper (envOfC "is_number" (defScope s_is_number) s.heap.objs.size f cdv))) :
    PSs (cxOf (L2.CX PG w) PG w K mg base ["value"] "is_number" (defScope s_is_number) f cdv A outer s H E).nox (defBody s_is_number) (t_is_number K T.C E) :=
    (pss_one (ps_ret (pe_and (pe_call G_is_integer (hr.mono (by decide)) rfl T.f_is_integer.g T.f_is_integer.F.kp T.f_is_integer.b .nil passL (pa_cons (pv 0) pa_nil)) (pe_one (pe_cmpR op_ge (pv 0) pe_int (nomark _))))))
abbrev s_is_below : Stmt := topS 6
theorem sc_is_below : FnScope ["value", "most"] ["value", "most"] (defScope s_is_below) := ⟨rfl, rfl, rfl, by decide +kernel, rfl, by decide +kernel, by decide +kernel⟩
def t_is_below (K : PySem.W.Frag) (C : Addr) (E : XK) : TS :=
    (tRet (tAndV (tCall (sp_is_number C) [] E0 (tCons (tVar 0) tNil)) (tOp (rI0 fun i j => .bl (decide (i < j))) (tVar 0) (tVar 1))))
theorem d_is_below (T : Txt K mg) (G_is_number : FnOk PG w K mg base (L2.CX PG w) 2 T.f_is_number.f T.f_is_number.fd ["value"] (sp_is_number T.C)) (f : Addr) (cdv : Value) (A : Around) (outer : List Env) (s : Shared) (H : Hp) (E : XK) (hr : Room 2 (A.deeper (envOfC "is_below" (defScope s_is_below) s.heap.objs.size f cdv))) :
    PSs (cxOf (L2.CX PG w) PG w K mg base ["value", "most"] "is_below" (defScope s_is_below) f cdv A outer s H E).nox (defBody s_is_below) (t_is_below K T.C E) :=
    (pss_one (ps_ret (pe_and (pe_call G_is_number (hr.mono (by decide)) rfl T.f_is_number.g T.f_is_number.F.kp T.f_is_number.b .nil passL (pa_cons (pv 0) pa_nil)) (pe_one (pe_cmpR op_lt (pv 0) (pv 1) (nomark _))))))
abbrev s_is_sequence : Stmt := topS 7
theorem sc_is_sequence : FnScope ["value"] ["value"] (defScope s_is_sequence) := ⟨rfl, rfl, rfl, by decide +kernel, rfl, by decide +kernel, by decide +kernel⟩
def t_is_sequence (K : PySem.W.Frag) (C : Addr) (E : XK) : TS :=
    (tRet (tCB (rIsiT K) (tCons (tVar 0) (tCons (tTup (tCons (tC (.ty "list")) (tCons (tC (.ty "tuple")) tNil))) tNil))))
theorem d_is_sequence (T : Txt K mg)  (f : Addr) (cdv : Value) (A : Around) (outer : List Env) (s : Shared) (H : Hp) (E : XK) (hr : Room 0 (A.deeper (envOfC "is_sequence" (defScope s_is_sequence) s.heap.objs.size f cdv))) :
    PSs (cxOf (L2.CX PG w) PG w K mg base ["value"] "is_sequence" (defScope s_is_sequence) f cdv A outer s H E).nox (defBody s_is_sequence) (t_is_sequence K T.C E) :=
    (pss_one (ps_ret (pe_callB call_isiT (by rfl) T.mg_isinstance bt_isinstance (pa_cons (pv 0) (pa_cons (pe_tup (pa_cons (pe_bltn (v := .ty "list") rfl T.mg_list bt_list rfl) (pa_cons (pe_bltn (v := .ty "tuple") rfl T.mg_tuple bt_tuple rfl) pa_nil))) pa_nil)))))
abbrev s_is_ascending : Stmt := topS 8
theorem sc_is_ascending : FnScope ["value", "one", "other"] ["value"] (defScope s_is_ascending) := ⟨rfl, rfl, rfl, by decide +kernel, rfl, by decide +kernel, by decide +kernel⟩
def t_is_ascending (K : PySem.W.Frag) (C : Addr) (E : XK) : TS :=
    (tRet (tCB (rAll K) (tCons (tLc (iZipS K (tCons (tVar 0) (tCons (tSl (rSlT K) (tVar 0) (tPart (tC (.int 1))) tNoPart) tNil))) (gTup K 2 (gCons (gName 1) (gCons (gName 2) gNil))) tYes (tOp (rI0 fun i j => .bl (decide (i < j))) (tVar 1) (tVar 2)) [1, 2]) tNil)))
theorem d_is_ascending (T : Txt K mg)  (f : Addr) (cdv : Value) (A : Around) (outer : List Env) (s : Shared) (H : Hp) (E : XK) (hr : Room 0 (A.deeper (envOfC "is_ascending" (defScope s_is_ascending) s.heap.objs.size f cdv))) :
    PSs (cxOf (L2.CX PG w) PG w K mg base ["value", "one", "other"] "is_ascending" (defScope s_is_ascending) f cdv A outer s H E).nox (defBody s_is_ascending) (t_is_ascending K T.C E) :=
    (pss_one (ps_ret (pe_callB (cr_all rfl) (by rfl) T.mg_all bt_all (pa_cons (pe_lc (own := [("one", 1), ("other", 2)]) (g := (gTup K 2 (gCons (gName 1) (gCons (gName 2) gNil)))) (tt := tYes) rfl sc_is_ascending.nd (pi_zipS (by rfl) T.mg_zip (pa_cons (pv 0) (pa_cons (pe_slice sl_tup (pv 0) (po_some pe_int) po_none) pa_nil))) (blkOk_by (N := ["value", "one", "other"]) (sc := defScope s_is_ascending) (by decide +kernel)) (fun _ _ _ _ _ => (pg_tup rfl (pgs_cons (pg_name (i := 1) sc_is_ascending.nd rfl (by first | exact Or.inl rfl | exact Or.inr rfl)) (pgs_cons (pg_name (i := 2) sc_is_ascending.nd rfl (by first | exact Or.inl rfl | exact Or.inr rfl)) pgs_nil)))) (fun _ _ _ _ _ => pts_nil) (fun _ _ _ _ _ => (pe_cmpR op_lt (pv 1) (pv 2) (nomark _)))) pa_nil))))
abbrev s_is_lot : Stmt := topS 9
theorem sc_is_lot : FnScope ["value", "most", "one"] ["value", "most"] (defScope s_is_lot) := ⟨rfl, rfl, rfl, by decide +kernel, rfl, by decide +kernel, by decide +kernel⟩
def t_is_lot (K : PySem.W.Frag) (C : Addr) (E : XK) : TS :=
    (tRet (tAndV (tCall (sp_is_sequence C) [] E0 (tCons (tVar 0) tNil)) (tAndV (tCB (rAll K) (tCons (tLc (iSeq K (tVar 0)) (gName 2) tYes (tCall (sp_is_below C) [] E0 (tCons (tVar 2) (tCons (tVar 1) tNil))) [2]) tNil)) (tCall (sp_is_ascending C) [] E0 (tCons (tVar 0) tNil)))))
theorem d_is_lot (T : Txt K mg) (G_is_below : FnOk PG w K mg base (L2.CX PG w) 3 T.f_is_below.f T.f_is_below.fd ["value", "most"] (sp_is_below T.C)) (G_is_sequence : FnOk PG w K mg base (L2.CX PG w) 1 T.f_is_sequence.f T.f_is_sequence.fd ["value"] (sp_is_sequence T.C)) (G_is_ascending : FnOk PG w K mg base (L2.CX PG w) 1 T.f_is_ascending.f T.f_is_ascending.fd ["value"] (sp_is_ascending T.C)) (f : Addr) (cdv : Value) (A : Around) (outer : List Env) (s : Shared) (H : Hp) (E : XK) (hr : Room 3 (A.deeper (envOfC "is_lot" (defScope s_is_lot) s.heap.objs.size f cdv))) :
    PSs (cxOf (L2.CX PG w) PG w K mg base ["value", "most", "one"] "is_lot" (defScope s_is_lot) f cdv A outer s H E).nox (defBody s_is_lot) (t_is_lot K T.C E) :=
    (pss_one (ps_ret (pe_and (pe_call G_is_sequence (hr.mono (by decide)) rfl T.f_is_sequence.g T.f_is_sequence.F.kp T.f_is_sequence.b .nil passL (pa_cons (pv 0) pa_nil)) (pe_and (pe_callB (cr_all rfl) (by rfl) T.mg_all bt_all (pa_cons (pe_lc (own := [("one", 2)]) (g := (gName 2)) (tt := tYes) rfl sc_is_lot.nd (pi_seq (pv 0)) (blkOk_by (N := ["value", "most", "one"]) (sc := defScope s_is_lot) (by decide +kernel)) (fun _ _ _ _ _ => (pg_name (i := 2) sc_is_lot.nd rfl (by first | exact Or.inl rfl | exact Or.inr rfl))) (fun _ _ _ _ _ => pts_nil) (fun _ _ _ _ _ => (pe_call G_is_below (hr.mono (by decide)) rfl T.f_is_below.g T.f_is_below.F.kp T.f_is_below.b .nil passL (pa_cons (pv 2) (pa_cons (pv 1) pa_nil))))) pa_nil)) (pe_one (pe_call G_is_ascending (hr.mono (by decide)) rfl T.f_is_ascending.g T.f_is_ascending.F.kp T.f_is_ascending.b .nil passL (pa_cons (pv 0) pa_nil)))))))
abbrev s_is_arc : Stmt := topS 14
theorem sc_is_arc : FnScope ["many", "value"] ["many", "value"] (defScope s_is_arc) := ⟨rfl, rfl, rfl, by decide +kernel, rfl, by decide +kernel, by decide +kernel⟩
def t_is_arc (K : PySem.W.Frag) (C : Addr) (E : XK) : TS :=
    (tSeq (tIfS (tOr (tNot (tB (tCall (sp_is_sequence C) [] E0 (tCons (tVar 1) tNil)))) (tTest (tOp (rNeD K) (tCB (rLen K) (tCons (tVar 1) tNil)) (tC (.int 3))))) (tRet (tC (.bl false))) tNext)
    (tRet (tAndV (tCall (sp_is_below C) [] E0 (tCons (tOp (rIx K) (tVar 1) (tC (.int 0))) (tCons (tVar 0) tNil))) (tAndV (tCall (sp_is_below C) [] E0 (tCons (tOp (rIx K) (tVar 1) (tC (.int 1))) (tCons (tVar 0) tNil))) (tOrV (tOp (fun x y H Q => y = .non ∧ Q (.bl (decide (x = .non))) H) (tOp (rIx K) (tVar 1) (tC (.int 2))) (tC .non)) (tCall (sp_is_number C) [] E0 (tCons (tOp (rIx K) (tVar 1) (tC (.int 2))) tNil)))))))
theorem d_is_arc (T : Txt K mg) (G_is_number : FnOk PG w K mg base (L2.CX PG w) 2 T.f_is_number.f T.f_is_number.fd ["value"] (sp_is_number T.C)) (G_is_below : FnOk PG w K mg base (L2.CX PG w) 3 T.f_is_below.f T.f_is_below.fd ["value", "most"] (sp_is_below T.C)) (G_is_sequence : FnOk PG w K mg base (L2.CX PG w) 1 T.f_is_sequence.f T.f_is_sequence.fd ["value"] (sp_is_sequence T.C)) (f : Addr) (cdv : Value) (A : Around) (outer : List Env) (s : Shared) (H : Hp) (E : XK) (hr : Room 3 (A.deeper (envOfC "is_arc" (defScope s_is_arc) s.heap.objs.size f cdv))) :
    PSs (cxOf (L2.CX PG w) PG w K mg base ["many", "value"] "is_arc" (defScope s_is_arc) f cdv A outer s H E).nox (defBody s_is_arc) (t_is_arc K T.C E) :=
    (pss_cons (ps_if (PW.pt (pw_or (pt_not (pt_val (pe_call G_is_sequence (hr.mono (by decide)) rfl T.f_is_sequence.g T.f_is_sequence.F.kp T.f_is_sequence.b .nil passL (pa_cons (pv 1) pa_nil)))) (pw_or1 (pt_cmpR (op_neD hr.units) (pe_callB call_len_seq (by rfl) T.mg_len bt_len (pa_cons (pv 1) pa_nil)) pe_int (nomark _))))) (pss_one (ps_ret pe_bl)) pss_nil)
      (pss_one (ps_ret (pe_and (pe_call G_is_below (hr.mono (by decide)) rfl T.f_is_below.g T.f_is_below.F.kp T.f_is_below.b .nil passL (pa_cons (pe_ix ix_seq (pv 1) pe_int (fun _ _ => rfl)) (pa_cons (pv 0) pa_nil))) (pe_and (pe_call G_is_below (hr.mono (by decide)) rfl T.f_is_below.g T.f_is_below.F.kp T.f_is_below.b .nil passL (pa_cons (pe_ix ix_seq (pv 1) pe_int (fun _ _ => rfl)) (pa_cons (pv 0) pa_nil))) (pe_one (pe_or (pe_cmpR op_isN (pe_ix ix_seq (pv 1) pe_int (fun _ _ => rfl)) pe_non (nomark _)) (pe_one (pe_call G_is_number (hr.mono (by decide)) rfl T.f_is_number.g T.f_is_number.F.kp T.f_is_number.b .nil passL (pa_cons (pe_ix ix_seq (pv 1) pe_int (fun _ _ => rfl)) pa_nil))))))))))
abbrev s_check_net : Stmt := topS 15
theorem sc_check_net : FnScope ["value", "arc"] ["value"] (defScope s_check_net) := ⟨rfl, rfl, rfl, by decide +kernel, rfl, by decide +kernel, by decide +kernel⟩
def t_check_net (K : PySem.W.Frag) (C : Addr) (E : XK) : TS :=
    (tSeq (tIfS (tOr (tNot (tB (tCall (sp_is_sequence C) [] E0 (tCons (tVar 0) tNil)))) (tOr (tTest (tOp (rNeD K) (tCB (rLen K) (tCons (tVar 0) tNil)) (tC (.int 2)))) (tNot (tB (tCall (sp_is_sequence C) [] E0 (tCons (tOp (rIx K) (tVar 0) (tC (.int 1))) tNil)))))) (tRaiseR C E (tVar 0)) tNext)
    (tSeq (tIfS (tOr (tNot (tB (tCall (sp_is_below C) [] E0 (tCons (tOp (rIx K) (tVar 0) (tC (.int 0))) (tCons (tOp (rI0 fun i j => .int (i + j)) (tC (.int (2000))) (tC (.int 1))) tNil))))) (tTest (tOp (rEqD K) (tOp (rIx K) (tVar 0) (tC (.int 0))) (tC (.int 0))))) (tRaiseR C E (tVar 0)) tNext)
    (tSeq (tIfS (tNot (tB (tCB (rAll K) (tCons (tLc (iSeq K (tOp (rIx K) (tVar 0) (tC (.int 1)))) (gName 1) tYes (tCall (sp_is_arc C) [] E0 (tCons (tOp (rIx K) (tVar 0) (tC (.int 0))) (tCons (tVar 1) tNil))) [1]) tNil)))) (tRaiseR C E (tVar 0)) tNext)
    (tRet (tTup (tCons (tOp (rIx K) (tVar 0) (tC (.int 0))) (tCons (tCB (rTupOf K) (tCons (tLc (iSeq K (tOp (rIx K) (tVar 0) (tC (.int 1)))) (gName 1) tYes (tCB (rTupOf K) (tCons (tVar 1) tNil)) [1]) tNil)) tNil)))))))
theorem d_check_net (T : Txt K mg) (G_is_below : FnOk PG w K mg base (L2.CX PG w) 3 T.f_is_below.f T.f_is_below.fd ["value", "most"] (sp_is_below T.C)) (G_is_sequence : FnOk PG w K mg base (L2.CX PG w) 1 T.f_is_sequence.f T.f_is_sequence.fd ["value"] (sp_is_sequence T.C)) (G_is_arc : FnOk PG w K mg base (L2.CX PG w) 4 T.f_is_arc.f T.f_is_arc.fd ["many", "value"] (sp_is_arc T.C)) (f : Addr) (cdv : Value) (A : Around) (outer : List Env) (s : Shared) (H : Hp) (E : XK) (hr : Room 4 (A.deeper (envOfC "check_net" (defScope s_check_net) s.heap.objs.size f cdv))) :
    PSs (cxOf (L2.CX PG w) PG w K mg base ["value", "arc"] "check_net" (defScope s_check_net) f cdv A outer s H E) (defBody s_check_net) (t_check_net K T.C E) :=
    (pss_cons (ps_if (PW.pt (pw_or (pt_not (pt_val (pe_call G_is_sequence (hr.mono (by decide)) rfl T.f_is_sequence.g T.f_is_sequence.F.kp T.f_is_sequence.b .nil passL (pa_cons (pv 0) pa_nil)))) (pw_or (pt_cmpR (op_neD hr.units) (pe_callB call_len_seq (by rfl) T.mg_len bt_len (pa_cons (pv 0) pa_nil)) pe_int (nomark _)) (pw_or1 (pt_not (pt_val (pe_call G_is_sequence (hr.mono (by decide)) rfl T.f_is_sequence.g T.f_is_sequence.F.kp T.f_is_sequence.b .nil passL (pa_cons (pe_ix ix_seq (pv 0) pe_int (fun _ _ => rfl)) pa_nil)))))))) (pss_one (ps_raiseR T.ref hr (takes_of rfl rfl rfl rfl) (pv 0))) pss_nil)
      (pss_cons (ps_if (PW.pt (pw_or (pt_not (pt_val (pe_call G_is_below (hr.mono (by decide)) rfl T.f_is_below.g T.f_is_below.F.kp T.f_is_below.b .nil passL (pa_cons (pe_ix ix_seq (pv 0) pe_int (fun _ _ => rfl)) (pa_cons (pe_op op_add (pe_glob rfl T.mg_MOST_NODES ⟨_, rfl⟩) pe_int) pa_nil))))) (pw_or1 (pt_cmpR (op_eqD hr.units) (pe_ix ix_seq (pv 0) pe_int (fun _ _ => rfl)) pe_int (nomark _))))) (pss_one (ps_raiseR T.ref hr (takes_of rfl rfl rfl rfl) (pv 0))) pss_nil)
      (pss_cons (ps_if (pt_not (pt_val (pe_callB (cr_all rfl) (by rfl) T.mg_all bt_all (pa_cons (pe_lc (own := [("arc", 1)]) (g := (gName 1)) (tt := tYes) rfl sc_check_net.nd (pi_seq (pe_ix ix_seq (pv 0) pe_int (fun _ _ => rfl))) (blkOk_by (N := ["value", "arc"]) (sc := defScope s_check_net) (by decide +kernel)) (fun _ _ _ _ _ => (pg_name (i := 1) sc_check_net.nd rfl (by first | exact Or.inl rfl | exact Or.inr rfl))) (fun _ _ _ _ _ => pts_nil) (fun _ _ _ _ _ => (pe_call G_is_arc (hr.mono (by decide)) rfl T.f_is_arc.g T.f_is_arc.F.kp T.f_is_arc.b .nil passL (pa_cons (pe_ix ix_seq (pv 0) pe_int (fun _ _ => rfl)) (pa_cons (pv 1) pa_nil))))) pa_nil)))) (pss_one (ps_raiseR T.ref hr (takes_of rfl rfl rfl rfl) (pv 0))) pss_nil)
      (pss_one (ps_ret (pe_tup (pa_cons (pe_ix ix_seq (pv 0) pe_int (fun _ _ => rfl)) (pa_cons (pe_callTy call_tuple_of (by rfl) T.mg_tuple bt_tuple (pa_cons (pe_lc (own := [("arc", 1)]) (g := (gName 1)) (tt := tYes) rfl sc_check_net.nd (pi_seq (pe_ix ix_seq (pv 0) pe_int (fun _ _ => rfl))) (blkOk_by (N := ["value", "arc"]) (sc := defScope s_check_net) (by decide +kernel)) (fun _ _ _ _ _ => (pg_name (i := 1) sc_check_net.nd rfl (by first | exact Or.inl rfl | exact Or.inr rfl))) (fun _ _ _ _ _ => pts_nil) (fun _ _ _ _ _ => (pe_callTy call_tuple_of (by rfl) T.mg_tuple bt_tuple (pa_cons (pv 1) pa_nil)))) pa_nil)) pa_nil))))))))
end
end DL
/-! printed by gen.py: scopes, readings, derivations -/
namespace DL
open PySem PySem.Spec PyProof.Rows L2
section
variable {w : World} {K : PySem.W.Frag} {mg : Str → Option Value} {base : Heap}
abbrev s_need_node : Stmt := topS 16
theorem sc_need_node : FnScope ["many", "value"] ["many", "value"] (defScope s_need_node) := ⟨rfl, rfl, rfl, by decide +kernel, rfl, by decide +kernel, by decide +kernel⟩
def t_need_node (K : PySem.W.Frag) (C : Addr) (E : XK) : TS :=
    (tSeq (tIfS (tNot (tB (tCall (sp_is_below C) [] E0 (tCons (tVar 1) (tCons (tVar 0) tNil))))) (tRaiseR C E (tVar 1)) tNext)
    (tRet (tVar 1)))
theorem d_need_node (T : Txt K mg) (G_is_below : FnOk PG w K mg base (L2.CX PG w) 3 T.f_is_below.f T.f_is_below.fd ["value", "most"] (sp_is_below T.C)) (f : Addr) (cdv : Value) (A : Around) (outer : List Env) (s : Shared) (H : Hp) (E : XK) (hr : Room 3 (A.deeper (envOfC "need_node" (defScope s_need_node) s.heap.objs.size f cdv))) :
    PSs (cxOf (L2.CX PG w) PG w K mg base ["many", "value"] "need_node" (defScope s_need_node) f cdv A outer s H E) (defBody s_need_node) (t_need_node K T.C E) :=
    (pss_cons (ps_if (pt_not (pt_val (pe_call G_is_below (hr.mono (by decide)) rfl T.f_is_below.g T.f_is_below.F.kp T.f_is_below.b .nil passL (pa_cons (pv 1) (pa_cons (pv 0) pa_nil))))) (pss_one (ps_raiseR T.ref hr (takes_of rfl rfl rfl rfl) (pv 1))) pss_nil)
      (pss_one (ps_ret (pv 1))))
abbrev s_need_ends : Stmt := topS 17
theorem sc_need_ends : FnScope ["many", "start", "ends", "node"] ["many", "start", "ends"] (defScope s_need_ends) := ⟨rfl, rfl, rfl, by decide +kernel, rfl, by decide +kernel, by decide +kernel⟩
def t_need_ends (K : PySem.W.Frag) (C : Addr) (E : XK) : TS :=
    (tSeq (tDrop (tCall (sp_need_node C) [] E0 (tCons (tVar 0) (tCons (tVar 1) tNil))))
    (tSeq (tIfS (tOr (tNot (tB (tCall (sp_is_sequence C) [] E0 (tCons (tVar 2) tNil)))) (tNot (tB (tCB (rAll K) (tCons (tLc (iSeq K (tVar 2)) (gName 3) tYes (tAndV (tCall (sp_is_below C) [] E0 (tCons (tVar 3) (tCons (tVar 0) tNil))) (tOp (rNeD K) (tVar 3) (tVar 1))) [3]) tNil))))) (tRaiseR C E (tVar 2)) tNext)
    (tSeq (tIfS (tTest (tOp (rNeD K) (tCB rLenD (tCons (tDc (iSeq K (tVar 2)) (gName 3) tYes (tVar 3) (tC (.bl true)) [3]) tNil)) (tCB (rLen K) (tCons (tVar 2) tNil)))) (tRaiseR C E (tVar 2)) tNext)
    (tRet (tCB (rTupOf K) (tCons (tVar 2) tNil))))))
theorem d_need_ends (T : Txt K mg) (G_is_below : FnOk PG w K mg base (L2.CX PG w) 3 T.f_is_below.f T.f_is_below.fd ["value", "most"] (sp_is_below T.C)) (G_is_sequence : FnOk PG w K mg base (L2.CX PG w) 1 T.f_is_sequence.f T.f_is_sequence.fd ["value"] (sp_is_sequence T.C)) (G_need_node : FnOk PG w K mg base (L2.CX PG w) 4 T.f_need_node.f T.f_need_node.fd ["many", "value"] (sp_need_node T.C)) (f : Addr) (cdv : Value) (A : Around) (outer : List Env) (s : Shared) (H : Hp) (E : XK) (hr : Room 4 (A.deeper (envOfC "need_ends" (defScope s_need_ends) s.heap.objs.size f cdv))) :
    PSs (cxOf (L2.CX PG w) PG w K mg base ["many", "start", "ends", "node"] "need_ends" (defScope s_need_ends) f cdv A outer s H E) (defBody s_need_ends) (t_need_ends K T.C E) :=
    (pss_cons (ps_expr (pe_call G_need_node (hr.mono (by decide)) rfl T.f_need_node.g T.f_need_node.F.kp T.f_need_node.b .nil passL (pa_cons (pv 0) (pa_cons (pv 1) pa_nil))))
      (pss_cons (ps_if (PW.pt (pw_or (pt_not (pt_val (pe_call G_is_sequence (hr.mono (by decide)) rfl T.f_is_sequence.g T.f_is_sequence.F.kp T.f_is_sequence.b .nil passL (pa_cons (pv 2) pa_nil)))) (pw_or1 (pt_not (pt_val (pe_callB (cr_all rfl) (by rfl) T.mg_all bt_all (pa_cons (pe_lc (own := [("node", 3)]) (g := (gName 3)) (tt := tYes) rfl sc_need_ends.nd (pi_seq (pv 2)) (blkOk_by (N := ["many", "start", "ends", "node"]) (sc := defScope s_need_ends) (by decide +kernel)) (fun _ _ _ _ _ => (pg_name (i := 3) sc_need_ends.nd rfl (by first | exact Or.inl rfl | exact Or.inr rfl))) (fun _ _ _ _ _ => pts_nil) (fun _ _ _ _ _ => (pe_and (pe_call G_is_below (hr.mono (by decide)) rfl T.f_is_below.g T.f_is_below.F.kp T.f_is_below.b .nil passL (pa_cons (pv 3) (pa_cons (pv 0) pa_nil))) (pe_one (pe_cmpR (op_neD hr.units) (pv 3) (pv 1) (nomark _)))))) pa_nil))))))) (pss_one (ps_raiseR T.ref hr (takes_of rfl rfl rfl rfl) (pv 2))) pss_nil)
      (pss_cons (ps_if (pt_cmpR (op_neD hr.units) (pe_callB call_lenD (by rfl) T.mg_len bt_len (pa_cons (pe_dc (own := [("node", 3)]) (g := (gName 3)) (tt := tYes) rfl sc_need_ends.nd (pi_seq (pv 2)) (blkOk_by (N := ["many", "start", "ends", "node"]) (sc := defScope s_need_ends) (by decide +kernel)) (fun _ _ _ _ _ => (pg_name (i := 3) sc_need_ends.nd rfl (by first | exact Or.inl rfl | exact Or.inr rfl))) (fun _ _ _ _ _ => pts_nil) (fun _ _ _ _ _ => (pv 3)) (fun _ _ _ _ _ => pe_bl)) pa_nil)) (pe_callB call_len_seq (by rfl) T.mg_len bt_len (pa_cons (pv 2) pa_nil)) (nomark _)) (pss_one (ps_raiseR T.ref hr (takes_of rfl rfl rfl rfl) (pv 2))) pss_nil)
      (pss_one (ps_ret (pe_callTy call_tuple_of (by rfl) T.mg_tuple bt_tuple (pa_cons (pv 2) pa_nil)))))))
abbrev s_need_pair : Stmt := topS 18
theorem sc_need_pair : FnScope ["many", "start", "goal"] ["many", "start", "goal"] (defScope s_need_pair) := ⟨rfl, rfl, rfl, by decide +kernel, rfl, by decide +kernel, by decide +kernel⟩
def t_need_pair (K : PySem.W.Frag) (C : Addr) (E : XK) : TS :=
    (tSeq (tDrop (tCall (sp_need_node C) [] E (tCons (tVar 0) (tCons (tVar 1) tNil))))
    (tSeq (tIfS (tOr (tNot (tB (tCall (sp_is_below C) [] E0 (tCons (tVar 2) (tCons (tVar 0) tNil))))) (tTest (tOp (rEqD K) (tVar 2) (tVar 1)))) (tRaiseR C E (tVar 2)) tNext)
    (tRet (tVar 2))))
theorem d_need_pair (T : Txt K mg) (G_is_below : FnOk PG w K mg base (L2.CX PG w) 3 T.f_is_below.f T.f_is_below.fd ["value", "most"] (sp_is_below T.C)) (G_need_node : FnOk PG w K mg base (L2.CX PG w) 4 T.f_need_node.f T.f_need_node.fd ["many", "value"] (sp_need_node T.C)) (f : Addr) (cdv : Value) (A : Around) (outer : List Env) (s : Shared) (H : Hp) (E : XK) (hr : Room 4 (A.deeper (envOfC "need_pair" (defScope s_need_pair) s.heap.objs.size f cdv))) :
    PSs (cxOf (L2.CX PG w) PG w K mg base ["many", "start", "goal"] "need_pair" (defScope s_need_pair) f cdv A outer s H E) (defBody s_need_pair) (t_need_pair K T.C E) :=
    (pss_cons (ps_expr (pe_call G_need_node (hr.mono (by decide)) rfl T.f_need_node.g T.f_need_node.F.kp T.f_need_node.b .nil (passes_call (takes_of rfl rfl rfl rfl) (fun _ _ _ _ h => h)) (pa_cons (pv 0) (pa_cons (pv 1) pa_nil))))
      (pss_cons (ps_if (PW.pt (pw_or (pt_not (pt_val (pe_call G_is_below (hr.mono (by decide)) rfl T.f_is_below.g T.f_is_below.F.kp T.f_is_below.b .nil passL (pa_cons (pv 2) (pa_cons (pv 0) pa_nil))))) (pw_or1 (pt_cmpR (op_eqD hr.units) (pv 2) (pv 1) (nomark _))))) (pss_one (ps_raiseR T.ref hr (takes_of rfl rfl rfl rfl) (pv 2))) pss_nil)
      (pss_one (ps_ret (pv 2)))))
abbrev s_are_borne : Stmt := topS 19
theorem sc_are_borne : FnScope ["arcs", "value", "one", "arc"] ["arcs", "value"] (defScope s_are_borne) := ⟨rfl, rfl, rfl, by decide +kernel, rfl, by decide +kernel, by decide +kernel⟩
def t_are_borne (K : PySem.W.Frag) (C : Addr) (E : XK) : TS :=
    (tSeq (tIfS (tOr (tNot (tB (tCall (sp_is_sequence C) [] E0 (tCons (tVar 1) tNil)))) (tOr (tTest (tOp (rNeD K) (tCB (rLen K) (tCons (tVar 1) tNil)) (tCB (rLen K) (tCons (tVar 0) tNil)))) (tNot (tB (tCB (rAll K) (tCons (tLc (iSeq K (tVar 1)) (gName 2) tYes (tCall (sp_is_number C) [] E0 (tCons (tVar 2) tNil)) [2]) tNil)))))) (tRet (tC (.bl false))) tNext)
    (tRet (tCB (rAll K) (tCons (tLc (iZipS K (tCons (tVar 0) (tCons (tVar 1) tNil))) (gTup K 2 (gCons (gName 3) (gCons (gName 2) gNil))) tYes (tOrV (tOp (fun x y H Q => y = .non ∧ Q (.bl (decide (x = .non))) H) (tOp (rIx K) (tVar 3) (tC (.int 2))) (tC .non)) (tOp (rI0 fun i j => .bl (decide (i ≤ j))) (tVar 2) (tOp (rIx K) (tVar 3) (tC (.int 2))))) [3, 2]) tNil))))
theorem d_are_borne (T : Txt K mg) (G_is_number : FnOk PG w K mg base (L2.CX PG w) 2 T.f_is_number.f T.f_is_number.fd ["value"] (sp_is_number T.C)) (G_is_sequence : FnOk PG w K mg base (L2.CX PG w) 1 T.f_is_sequence.f T.f_is_sequence.fd ["value"] (sp_is_sequence T.C)) (f : Addr) (cdv : Value) (A : Around) (outer : List Env) (s : Shared) (H : Hp) (E : XK) (hr : Room 2 (A.deeper (envOfC "are_borne" (defScope s_are_borne) s.heap.objs.size f cdv))) :
    PSs (cxOf (L2.CX PG w) PG w K mg base ["arcs", "value", "one", "arc"] "are_borne" (defScope s_are_borne) f cdv A outer s H E).nox (defBody s_are_borne) (t_are_borne K T.C E) :=
    (pss_cons (ps_if (PW.pt (pw_or (pt_not (pt_val (pe_call G_is_sequence (hr.mono (by decide)) rfl T.f_is_sequence.g T.f_is_sequence.F.kp T.f_is_sequence.b .nil passL (pa_cons (pv 1) pa_nil)))) (pw_or (pt_cmpR (op_neD hr.units) (pe_callB call_len_seq (by rfl) T.mg_len bt_len (pa_cons (pv 1) pa_nil)) (pe_callB call_len_seq (by rfl) T.mg_len bt_len (pa_cons (pv 0) pa_nil)) (nomark _)) (pw_or1 (pt_not (pt_val (pe_callB (cr_all rfl) (by rfl) T.mg_all bt_all (pa_cons (pe_lc (own := [("one", 2)]) (g := (gName 2)) (tt := tYes) rfl sc_are_borne.nd (pi_seq (pv 1)) (blkOk_by (N := ["arcs", "value", "one", "arc"]) (sc := defScope s_are_borne) (by decide +kernel)) (fun _ _ _ _ _ => (pg_name (i := 2) sc_are_borne.nd rfl (by first | exact Or.inl rfl | exact Or.inr rfl))) (fun _ _ _ _ _ => pts_nil) (fun _ _ _ _ _ => (pe_call G_is_number (hr.mono (by decide)) rfl T.f_is_number.g T.f_is_number.F.kp T.f_is_number.b .nil passL (pa_cons (pv 2) pa_nil)))) pa_nil)))))))) (pss_one (ps_ret pe_bl)) pss_nil)
      (pss_one (ps_ret (pe_callB (cr_all rfl) (by rfl) T.mg_all bt_all (pa_cons (pe_lc (own := [("arc", 3), ("one", 2)]) (g := (gTup K 2 (gCons (gName 3) (gCons (gName 2) gNil)))) (tt := tYes) rfl sc_are_borne.nd (pi_zipS (by rfl) T.mg_zip (pa_cons (pv 0) (pa_cons (pv 1) pa_nil))) (blkOk_by (N := ["arcs", "value", "one", "arc"]) (sc := defScope s_are_borne) (by decide +kernel)) (fun _ _ _ _ _ => (pg_tup rfl (pgs_cons (pg_name (i := 3) sc_are_borne.nd rfl (by first | exact Or.inl rfl | exact Or.inr rfl)) (pgs_cons (pg_name (i := 2) sc_are_borne.nd rfl (by first | exact Or.inl rfl | exact Or.inr rfl)) pgs_nil)))) (fun _ _ _ _ _ => pts_nil) (fun _ _ _ _ _ => (pe_or (pe_cmpR op_isN (pe_ix ix_seq (pv 3) pe_int (fun _ _ => rfl)) pe_non (nomark _)) (pe_one (pe_cmpR op_le (pv 2) (pe_ix ix_seq (pv 3) pe_int (fun _ _ => rfl)) (nomark _)))))) pa_nil)))))
abbrev s_need_load : Stmt := topS 20
theorem sc_need_load : FnScope ["arcs", "value"] ["arcs", "value"] (defScope s_need_load) := ⟨rfl, rfl, rfl, by decide +kernel, rfl, by decide +kernel, by decide +kernel⟩
def t_need_load (K : PySem.W.Frag) (C : Addr) (E : XK) : TS :=
    (tSeq (tIfS (tNot (tB (tCall (sp_are_borne C) [] E0 (tCons (tVar 0) (tCons (tVar 1) tNil))))) (tRaiseR C E (tVar 1)) tNext)
    (tRet (tCB (rTupOf K) (tCons (tVar 1) tNil))))
theorem d_need_load (T : Txt K mg) (G_are_borne : FnOk PG w K mg base (L2.CX PG w) 3 T.f_are_borne.f T.f_are_borne.fd ["arcs", "value"] (sp_are_borne T.C)) (f : Addr) (cdv : Value) (A : Around) (outer : List Env) (s : Shared) (H : Hp) (E : XK) (hr : Room 3 (A.deeper (envOfC "need_load" (defScope s_need_load) s.heap.objs.size f cdv))) :
    PSs (cxOf (L2.CX PG w) PG w K mg base ["arcs", "value"] "need_load" (defScope s_need_load) f cdv A outer s H E) (defBody s_need_load) (t_need_load K T.C E) :=
    (pss_cons (ps_if (pt_not (pt_val (pe_call G_are_borne (hr.mono (by decide)) rfl T.f_are_borne.g T.f_are_borne.F.kp T.f_are_borne.b .nil passL (pa_cons (pv 0) (pa_cons (pv 1) pa_nil))))) (pss_one (ps_raiseR T.ref hr (takes_of rfl rfl rfl rfl) (pv 1))) pss_nil)
      (pss_one (ps_ret (pe_callTy call_tuple_of (by rfl) T.mg_tuple bt_tuple (pa_cons (pv 1) pa_nil)))))
abbrev s_surplus : Stmt := topS 21
theorem sc_surplus : FnScope ["many", "arcs", "load", "found", "arc", "one"] ["many", "arcs", "load"] (defScope s_surplus) := ⟨rfl, rfl, rfl, by decide +kernel, rfl, by decide +kernel, by decide +kernel⟩
def t_surplus (K : PySem.W.Frag) (C : Addr) (E : XK) : TS :=
    (tSeq (tAsg (tOp rRep (tLst (tCons (tC (.int 0)) tNil)) (tVar 0)) (gName 3))
    (tSeq (tFor (iZipS K (tCons (tVar 1) (tCons (tVar 2) tNil))) (gTup K 2 (gCons (gName 4) (gCons (gName 5) gNil))) (tSeq (tAugS (tVar 3) (tOp (rIx K) (tVar 4) (tC (.int 0))) (tVar 5) (rIxL K) (ipI fun i j => i - j) rSetL)
    (tAugS (tVar 3) (tOp (rIx K) (tVar 4) (tC (.int 1))) (tVar 5) (rIxL K) (ipI fun i j => i + j) rSetL)))
    (tRet (tCB (rTupOf K) (tCons (tVar 3) tNil)))))
theorem d_surplus (T : Txt K mg)  (f : Addr) (cdv : Value) (A : Around) (outer : List Env) (s : Shared) (H : Hp) (E : XK) (hr : Room 0 (A.deeper (envOfC "surplus" (defScope s_surplus) s.heap.objs.size f cdv))) :
    PSs (cxOf (L2.CX PG w) PG w K mg base ["many", "arcs", "load", "found", "arc", "one"] "surplus" (defScope s_surplus) f cdv A outer s H E).nox (defBody s_surplus) (t_surplus K T.C E) :=
    (pss_cons (ps_set (i := 3) sc_surplus.nd rfl (Or.inl rfl) (pe_op op_rep (pe_lst (pa_cons pe_int pa_nil)) (pv 0)))
      (pss_cons (ps_for PassesOwn.never rfl (pi_zipS (by rfl) T.mg_zip (pa_cons (pv 1) (pa_cons (pv 2) pa_nil))) (pg_tup rfl (pgs_cons (pg_name (i := 4) sc_surplus.nd rfl (Or.inl rfl)) (pgs_cons (pg_name (i := 5) sc_surplus.nd rfl (Or.inl rfl)) pgs_nil))) (pss_cons (ps_augS (pv 3) (pe_ix ix_seq (pv 4) pe_int (fun _ _ => rfl)) get_list (pv 5) ip_sub set_list)
      (pss_one (ps_augS (pv 3) (pe_ix ix_seq (pv 4) pe_int (fun _ _ => rfl)) get_list (pv 5) ip_add set_list))))
      (pss_one (ps_ret (pe_callTy call_tuple_of (by rfl) T.mg_tuple bt_tuple (pa_cons (pv 3) pa_nil))))))
abbrev s_no_flow : Stmt := topS 22
theorem sc_no_flow : FnScope ["net"] ["net"] (defScope s_no_flow) := ⟨rfl, rfl, rfl, by decide +kernel, rfl, by decide +kernel, by decide +kernel⟩
def t_no_flow (K : PySem.W.Frag) (C : Addr) (E : XK) : TS :=
    (tRet (tOp (rRepZ K) (tTup (tCons (tC (.int 0)) tNil)) (tCB (rLen K) (tCons (tOp (rIx K) (tCall (sp_check_net C) [] E (tCons (tVar 0) tNil)) (tC (.int 1))) tNil))))
theorem d_no_flow (T : Txt K mg) (G_check_net : FnOk PG w K mg base (L2.CX PG w) 5 T.f_check_net.f T.f_check_net.fd ["value"] (sp_check_net T.C)) (f : Addr) (cdv : Value) (A : Around) (outer : List Env) (s : Shared) (H : Hp) (E : XK) (hr : Room 5 (A.deeper (envOfC "no_flow" (defScope s_no_flow) s.heap.objs.size f cdv))) :
    PSs (cxOf (L2.CX PG w) PG w K mg base ["net"] "no_flow" (defScope s_no_flow) f cdv A outer s H E) (defBody s_no_flow) (t_no_flow K T.C E) :=
    (pss_one (ps_ret (pe_op op_repZ (pe_tup (pa_cons pe_int pa_nil)) (pe_callB call_len_seq (by rfl) T.mg_len bt_len (pa_cons (pe_ix ix_seq (pe_call G_check_net (hr.mono (by decide)) rfl T.f_check_net.g T.f_check_net.F.kp T.f_check_net.b .nil (passes_call (takes_of rfl rfl rfl rfl) (fun _ _ _ _ h => h)) (pa_cons (pv 0) pa_nil)) pe_int (fun _ _ => rfl)) pa_nil)))))
abbrev s_fits : Stmt := topS 23
theorem sc_fits : FnScope ["many", "arcs", "ends", "value", "found", "node"] ["many", "arcs", "ends", "value"] (defScope s_fits) := ⟨rfl, rfl, rfl, by decide +kernel, rfl, by decide +kernel, by decide +kernel⟩
def t_fits (K : PySem.W.Frag) (C : Addr) (E : XK) : TS :=
    (tSeq (tIfS (tNot (tB (tCall (sp_are_borne C) [] E0 (tCons (tVar 1) (tCons (tVar 3) tNil))))) (tRet (tC (.bl false))) tNext)
    (tSeq (tAsg (tCall (sp_surplus C) [] E0 (tCons (tVar 0) (tCons (tVar 1) (tCons (tVar 3) tNil)))) (gName 4))
    (tRet (tCB (rAll K) (tCons (tLc (iRng1 (tCons (tVar 0) tNil)) (gName 5) tYes (tOrV (tOp (rEqD K) (tOp (rIx K) (tVar 4) (tVar 5)) (tC (.int 0))) (tOp (rIn K false) (tVar 5) (tVar 2))) [5]) tNil)))))
theorem d_fits (T : Txt K mg) (G_are_borne : FnOk PG w K mg base (L2.CX PG w) 3 T.f_are_borne.f T.f_are_borne.fd ["arcs", "value"] (sp_are_borne T.C)) (G_surplus : FnOk PG w K mg base (L2.CX PG w) 1 T.f_surplus.f T.f_surplus.fd ["many", "arcs", "load"] (sp_surplus T.C)) (f : Addr) (cdv : Value) (A : Around) (outer : List Env) (s : Shared) (H : Hp) (E : XK) (hr : Room 3 (A.deeper (envOfC "fits" (defScope s_fits) s.heap.objs.size f cdv))) :
    PSs (cxOf (L2.CX PG w) PG w K mg base ["many", "arcs", "ends", "value", "found", "node"] "fits" (defScope s_fits) f cdv A outer s H E).nox (defBody s_fits) (t_fits K T.C E) :=
    (pss_cons (ps_if (pt_not (pt_val (pe_call G_are_borne (hr.mono (by decide)) rfl T.f_are_borne.g T.f_are_borne.F.kp T.f_are_borne.b .nil passL (pa_cons (pv 1) (pa_cons (pv 3) pa_nil))))) (pss_one (ps_ret pe_bl)) pss_nil)
      (pss_cons (ps_set (i := 4) sc_fits.nd rfl (Or.inr rfl) (pe_call G_surplus (hr.mono (by decide)) rfl T.f_surplus.g T.f_surplus.F.kp T.f_surplus.b .nil passL (pa_cons (pv 0) (pa_cons (pv 1) (pa_cons (pv 3) pa_nil)))))
      (pss_one (ps_ret (pe_callB (cr_all rfl) (by rfl) T.mg_all bt_all (pa_cons (pe_lc (own := [("node", 5)]) (g := (gName 5)) (tt := tYes) rfl sc_fits.nd (pi_range1 rfl T.mg_range (pa_cons (pv 0) pa_nil)) (blkOk_by (N := ["many", "arcs", "ends", "value", "found", "node"]) (sc := defScope s_fits) (by decide +kernel)) (fun _ _ _ _ _ => (pg_name (i := 5) sc_fits.nd rfl (by first | exact Or.inl rfl | exact Or.inr rfl))) (fun _ _ _ _ _ => pts_nil) (fun _ _ _ _ _ => (pe_or (pe_cmpR (op_eqD hr.units) (pe_ix ix_seq (pv 4) (pv 5) (fun _ _ => rfl)) pe_int (nomark _)) (pe_one (pe_cmpR op_in_seq (pv 5) (pv 2) (by with_unfolding_all rfl)))))) pa_nil))))))
abbrev s_flow_fits : Stmt := topS 24
theorem sc_flow_fits : FnScope ["net", "start", "goal", "value", "many", "arcs"] ["net", "start", "goal", "value"] (defScope s_flow_fits) := ⟨rfl, rfl, rfl, by decide +kernel, rfl, by decide +kernel, by decide +kernel⟩
def t_flow_fits (K : PySem.W.Frag) (C : Addr) (E : XK) : TS :=
    (tSeq (tAsg (tCall (sp_check_net C) [] E (tCons (tVar 0) tNil)) (gTup K 2 (gCons (gName 4) (gCons (gName 5) gNil))))
    (tSeq (tDrop (tCall (sp_need_pair C) [] E (tCons (tVar 4) (tCons (tVar 1) (tCons (tVar 2) tNil)))))
    (tRet (tCall (sp_fits C) [] E0 (tCons (tVar 4) (tCons (tVar 5) (tCons (tTup (tCons (tVar 1) (tCons (tVar 2) tNil))) (tCons (tVar 3) tNil))))))))
theorem d_flow_fits (T : Txt K mg) (G_check_net : FnOk PG w K mg base (L2.CX PG w) 5 T.f_check_net.f T.f_check_net.fd ["value"] (sp_check_net T.C)) (G_need_pair : FnOk PG w K mg base (L2.CX PG w) 5 T.f_need_pair.f T.f_need_pair.fd ["many", "start", "goal"] (sp_need_pair T.C)) (G_fits : FnOk PG w K mg base (L2.CX PG w) 4 T.f_fits.f T.f_fits.fd ["many", "arcs", "ends", "value"] (sp_fits T.C)) (f : Addr) (cdv : Value) (A : Around) (outer : List Env) (s : Shared) (H : Hp) (E : XK) (hr : Room 5 (A.deeper (envOfC "flow_fits" (defScope s_flow_fits) s.heap.objs.size f cdv))) :
    PSs (cxOf (L2.CX PG w) PG w K mg base ["net", "start", "goal", "value", "many", "arcs"] "flow_fits" (defScope s_flow_fits) f cdv A outer s H E) (defBody s_flow_fits) (t_flow_fits K T.C E) :=
    (pss_cons (ps_asg (pe_call G_check_net (hr.mono (by decide)) rfl T.f_check_net.g T.f_check_net.F.kp T.f_check_net.b .nil (passes_call (takes_of rfl rfl rfl rfl) (fun _ _ _ _ h => h)) (pa_cons (pv 0) pa_nil)) (pg_tup rfl (pgs_cons (pg_name (i := 4) sc_flow_fits.nd rfl (Or.inl rfl)) (pgs_cons (pg_name (i := 5) sc_flow_fits.nd rfl (Or.inl rfl)) pgs_nil))))
      (pss_cons (ps_expr (pe_call G_need_pair (hr.mono (by decide)) rfl T.f_need_pair.g T.f_need_pair.F.kp T.f_need_pair.b .nil (passes_call (takes_of rfl rfl rfl rfl) (fun _ _ _ _ h => h)) (pa_cons (pv 4) (pa_cons (pv 1) (pa_cons (pv 2) pa_nil)))))
      (pss_one (ps_ret (pe_call G_fits (hr.mono (by decide)) rfl T.f_fits.g T.f_fits.F.kp T.f_fits.b .nil passL (pa_cons (pv 4) (pa_cons (pv 5) (pa_cons (pe_tup (pa_cons (pv 1) (pa_cons (pv 2) pa_nil))) (pa_cons (pv 3) pa_nil)))))))))
abbrev s_need_fit : Stmt := topS 25
theorem sc_need_fit : FnScope ["net", "start", "goal", "value"] ["net", "start", "goal", "value"] (defScope s_need_fit) := ⟨rfl, rfl, rfl, by decide +kernel, rfl, by decide +kernel, by decide +kernel⟩
def t_need_fit (K : PySem.W.Frag) (C : Addr) (E : XK) : TS :=
    (tSeq (tIfS (tNot (tB (tCall (sp_flow_fits C) [] E (tCons (tVar 0) (tCons (tVar 1) (tCons (tVar 2) (tCons (tVar 3) tNil))))))) (tRaiseR C E (tVar 3)) tNext)
    (tRet (tCB (rTupOf K) (tCons (tVar 3) tNil))))
theorem d_need_fit (T : Txt K mg) (G_flow_fits : FnOk PG w K mg base (L2.CX PG w) 6 T.f_flow_fits.f T.f_flow_fits.fd ["net", "start", "goal", "value"] (sp_flow_fits T.C)) (f : Addr) (cdv : Value) (A : Around) (outer : List Env) (s : Shared) (H : Hp) (E : XK) (hr : Room 6 (A.deeper (envOfC "need_fit" (defScope s_need_fit) s.heap.objs.size f cdv))) :
    PSs (cxOf (L2.CX PG w) PG w K mg base ["net", "start", "goal", "value"] "need_fit" (defScope s_need_fit) f cdv A outer s H E) (defBody s_need_fit) (t_need_fit K T.C E) :=
    (pss_cons (ps_if (pt_not (pt_val (pe_call G_flow_fits (hr.mono (by decide)) rfl T.f_flow_fits.g T.f_flow_fits.F.kp T.f_flow_fits.b .nil (passes_call (takes_of rfl rfl rfl rfl) (fun _ _ _ _ h => h)) (pa_cons (pv 0) (pa_cons (pv 1) (pa_cons (pv 2) (pa_cons (pv 3) pa_nil))))))) (pss_one (ps_raiseR T.ref hr (takes_of rfl rfl rfl rfl) (pv 3))) pss_nil)
      (pss_one (ps_ret (pe_callTy call_tuple_of (by rfl) T.mg_tuple bt_tuple (pa_cons (pv 3) pa_nil)))))
abbrev s_worth : Stmt := topS 26
theorem sc_worth : FnScope ["net", "start", "goal", "flow", "many", "arcs"] ["net", "start", "goal", "flow"] (defScope s_worth) := ⟨rfl, rfl, rfl, by decide +kernel, rfl, by decide +kernel, by decide +kernel⟩
def t_worth (K : PySem.W.Frag) (C : Addr) (E : XK) : TS :=
    (tSeq (tAsg (tCall (sp_check_net C) [] E0 (tCons (tVar 0) tNil)) (gTup K 2 (gCons (gName 4) (gCons (gName 5) gNil))))
    (tRet (tOp (rIx K) (tCall (sp_surplus C) [] E0 (tCons (tVar 4) (tCons (tVar 5) (tCons (tCall (sp_need_fit C) [] E0 (tCons (tVar 0) (tCons (tVar 1) (tCons (tVar 2) (tCons (tVar 3) tNil))))) tNil)))) (tVar 2))))
theorem d_worth (T : Txt K mg) (G_check_net : FnOk PG w K mg base (L2.CX PG w) 5 T.f_check_net.f T.f_check_net.fd ["value"] (sp_check_net T.C)) (G_surplus : FnOk PG w K mg base (L2.CX PG w) 1 T.f_surplus.f T.f_surplus.fd ["many", "arcs", "load"] (sp_surplus T.C)) (G_need_fit : FnOk PG w K mg base (L2.CX PG w) 7 T.f_need_fit.f T.f_need_fit.fd ["net", "start", "goal", "value"] (sp_need_fit T.C)) (f : Addr) (cdv : Value) (A : Around) (outer : List Env) (s : Shared) (H : Hp) (E : XK) (hr : Room 7 (A.deeper (envOfC "worth" (defScope s_worth) s.heap.objs.size f cdv))) :
    PSs (cxOf (L2.CX PG w) PG w K mg base ["net", "start", "goal", "flow", "many", "arcs"] "worth" (defScope s_worth) f cdv A outer s H E) (defBody s_worth) (t_worth K T.C E) :=
    (pss_cons (ps_asg (pe_call G_check_net (hr.mono (by decide)) rfl T.f_check_net.g T.f_check_net.F.kp T.f_check_net.b .nil passL (pa_cons (pv 0) pa_nil)) (pg_tup rfl (pgs_cons (pg_name (i := 4) sc_worth.nd rfl (Or.inl rfl)) (pgs_cons (pg_name (i := 5) sc_worth.nd rfl (Or.inl rfl)) pgs_nil))))
      (pss_one (ps_ret (pe_ix ix_seq (pe_call G_surplus (hr.mono (by decide)) rfl T.f_surplus.g T.f_surplus.F.kp T.f_surplus.b .nil passL (pa_cons (pv 4) (pa_cons (pv 5) (pa_cons (pe_call G_need_fit (hr.mono (by decide)) rfl T.f_need_fit.g T.f_need_fit.F.kp T.f_need_fit.b .nil passL (pa_cons (pv 0) (pa_cons (pv 1) (pa_cons (pv 2) (pa_cons (pv 3) pa_nil))))) pa_nil)))) (pv 2) (fun _ _ => rfl)))))
abbrev s_cut_worth : Stmt := topS 27
theorem sc_cut_worth : FnScope ["net", "lot", "many", "arcs", "inside", "borne", "node", "arc"] ["net", "lot"] (defScope s_cut_worth) := ⟨rfl, rfl, rfl, by decide +kernel, rfl, by decide +kernel, by decide +kernel⟩
def t_cut_worth (K : PySem.W.Frag) (C : Addr) (E : XK) : TS :=
    (tSeq (tAsg (tCall (sp_check_net C) [] E0 (tCons (tVar 0) tNil)) (gTup K 2 (gCons (gName 2) (gCons (gName 3) gNil))))
    (tSeq (tIfS (tNot (tB (tCall (sp_is_lot C) [] E0 (tCons (tVar 1) (tCons (tVar 2) tNil))))) (tRaiseR C E (tVar 1)) tNext)
    (tSeq (tAsg (tDc (iSeq K (tVar 1)) (gName 6) tYes (tVar 6) (tC (.bl true)) [6]) (gName 4))
    (tSeq (tAsg (tLc (iSeq K (tVar 3)) (gName 7) (tAnd (tB (tDIn (tOp (rIx K) (tVar 7) (tC (.int 0))) (tVar 4))) (tB (tDNotIn (tOp (rIx K) (tVar 7) (tC (.int 1))) (tVar 4)))) (tOp (rIx K) (tVar 7) (tC (.int 2))) [7]) (gName 5))
    (tRet (tIf (tTest (tOp (rIn K false) (tC .non) (tVar 5))) (tC .non) (tCB (rSum K) (tCons (tVar 5) tNil))))))))
theorem d_cut_worth (T : Txt K mg) (G_is_lot : FnOk PG w K mg base (L2.CX PG w) 4 T.f_is_lot.f T.f_is_lot.fd ["value", "most"] (sp_is_lot T.C)) (G_check_net : FnOk PG w K mg base (L2.CX PG w) 5 T.f_check_net.f T.f_check_net.fd ["value"] (sp_check_net T.C)) (f : Addr) (cdv : Value) (A : Around) (outer : List Env) (s : Shared) (H : Hp) (E : XK) (hr : Room 5 (A.deeper (envOfC "cut_worth" (defScope s_cut_worth) s.heap.objs.size f cdv))) :
    PSs (cxOf (L2.CX PG w) PG w K mg base ["net", "lot", "many", "arcs", "inside", "borne", "node", "arc"] "cut_worth" (defScope s_cut_worth) f cdv A outer s H E) (defBody s_cut_worth) (t_cut_worth K T.C E) :=
    (pss_cons (ps_asg (pe_call G_check_net (hr.mono (by decide)) rfl T.f_check_net.g T.f_check_net.F.kp T.f_check_net.b .nil passL (pa_cons (pv 0) pa_nil)) (pg_tup rfl (pgs_cons (pg_name (i := 2) sc_cut_worth.nd rfl (Or.inl rfl)) (pgs_cons (pg_name (i := 3) sc_cut_worth.nd rfl (Or.inl rfl)) pgs_nil))))
      (pss_cons (ps_if (pt_not (pt_val (pe_call G_is_lot (hr.mono (by decide)) rfl T.f_is_lot.g T.f_is_lot.F.kp T.f_is_lot.b .nil passL (pa_cons (pv 1) (pa_cons (pv 2) pa_nil))))) (pss_one (ps_raiseR T.ref hr (takes_of rfl rfl rfl rfl) (pv 1))) pss_nil)
      (pss_cons (ps_set (i := 4) sc_cut_worth.nd rfl (Or.inr rfl) (pe_dc (own := [("node", 6)]) (g := (gName 6)) (tt := tYes) rfl sc_cut_worth.nd (pi_seq (pv 1)) (blkOk_by (N := ["net", "lot", "many", "arcs", "inside", "borne", "node", "arc"]) (sc := defScope s_cut_worth) (by decide +kernel)) (fun _ _ _ _ _ => (pg_name (i := 6) sc_cut_worth.nd rfl (by first | exact Or.inl rfl | exact Or.inr rfl))) (fun _ _ _ _ _ => pts_nil) (fun _ _ _ _ _ => (pv 6)) (fun _ _ _ _ _ => pe_bl)))
      (pss_cons (ps_setLc (i := 5) (own := [("arc", 7)]) (g := (gName 7)) (tt := (tAnd (tB (tDIn (tOp (rIx K) (tVar 7) (tC (.int 0))) (tVar 4))) (tB (tDNotIn (tOp (rIx K) (tVar 7) (tC (.int 1))) (tVar 4))))) rfl sc_cut_worth.nd rfl rfl (sw_true rfl rfl rfl (by decide +kernel)) (pi_seq (pv 3)) (blkOk_by (N := ["net", "lot", "many", "arcs", "inside", "borne", "node", "arc"]) (sc := defScope s_cut_worth) (by decide +kernel)) (fun _ _ _ _ _ => (pg_name (i := 7) sc_cut_worth.nd rfl (by first | exact Or.inl rfl | exact Or.inr rfl))) (fun _ _ _ _ _ => (pts_one (PW.pt (pw_and (pt_cmp (pc_din (hu_of hr) (pe_ix ix_seq (pv 7) pe_int (fun _ _ => rfl)) (pv 4))) (pw_and1 (pt_cmp (pc_dnotin (hu_of hr) (pe_ix ix_seq (pv 7) pe_int (fun _ _ => rfl)) (pv 4)))))))) (fun _ _ _ _ _ => (pe_ix ix_seq (pv 7) pe_int (fun _ _ => rfl))))
      (pss_one (ps_ret (pe_ifExp (pt_cmpR op_in_seq pe_non (pv 5) (by with_unfolding_all rfl)) pe_non (pe_callB (cr_sum rfl) (by rfl) T.mg_sum bt_sum (pa_cons (pv 5) pa_nil)))))))))
abbrev s_left_of : Stmt := topS 28
theorem sc_left_of : FnScope ["arcs", "load", "at", "way"] ["arcs", "load", "at", "way"] (defScope s_left_of) := ⟨rfl, rfl, rfl, by decide +kernel, rfl, by decide +kernel, by decide +kernel⟩
def t_left_of (K : PySem.W.Frag) (C : Addr) (E : XK) : TS :=
    (tSeq (tIfS (tTest (tOp (rEqD K) (tVar 3) (tC (.int (-1))))) (tRet (tOp (rIx K) (tVar 1) (tVar 2))) tNext)
    (tRet (tIf (tTest (tOp (fun x y H Q => y = .non ∧ Q (.bl (decide (x = .non))) H) (tOp (rIx K) (tOp (rIx K) (tVar 0) (tVar 2)) (tC (.int 2))) (tC .non))) (tC .non) (tOp (rI0 fun i j => .int (i - j)) (tOp (rIx K) (tOp (rIx K) (tVar 0) (tVar 2)) (tC (.int 2))) (tOp (rIx K) (tVar 1) (tVar 2))))))
theorem d_left_of (T : Txt K mg)  (f : Addr) (cdv : Value) (A : Around) (outer : List Env) (s : Shared) (H : Hp) (E : XK) (hr : Room 0 (A.deeper (envOfC "left_of" (defScope s_left_of) s.heap.objs.size f cdv))) :
    PSs (cxOf (L2.CX PG w) PG w K mg base ["arcs", "load", "at", "way"] "left_of" (defScope s_left_of) f cdv A outer s H E).nox (defBody s_left_of) (t_left_of K T.C E) :=
    (pss_cons (ps_if (pt_cmpR (op_eqD hr.units) (pv 3) (pe_glob rfl T.mg_BACK ⟨_, rfl⟩) (nomark _)) (pss_one (ps_ret (pe_ix ix_seq (pv 1) (pv 2) (fun _ _ => rfl)))) pss_nil)
      (pss_one (ps_ret (pe_ifExp (pt_cmpR op_isN (pe_ix ix_seq (pe_ix ix_seq (pv 0) (pv 2) (fun _ _ => rfl)) pe_int (fun _ _ => rfl)) pe_non (nomark _)) pe_non (pe_op op_sub (pe_ix ix_seq (pe_ix ix_seq (pv 0) (pv 2) (fun _ _ => rfl)) pe_int (fun _ _ => rfl)) (pe_ix ix_seq (pv 1) (pv 2) (fun _ _ => rfl)))))))
abbrev s_can_go : Stmt := topS 29
theorem sc_can_go : FnScope ["arcs", "load", "at", "way"] ["arcs", "load", "at", "way"] (defScope s_can_go) := ⟨rfl, rfl, rfl, by decide +kernel, rfl, by decide +kernel, by decide +kernel⟩
def t_can_go (K : PySem.W.Frag) (C : Addr) (E : XK) : TS :=
    (tRet (tOp (rNeD K) (tCall (sp_left_of C) [] E0 (tCons (tVar 0) (tCons (tVar 1) (tCons (tVar 2) (tCons (tVar 3) tNil))))) (tC (.int 0))))
theorem d_can_go (T : Txt K mg) (G_left_of : FnOk PG w K mg base (L2.CX PG w) 1 T.f_left_of.f T.f_left_of.fd ["arcs", "load", "at", "way"] (sp_left_of T.C)) (f : Addr) (cdv : Value) (A : Around) (outer : List Env) (s : Shared) (H : Hp) (E : XK) (hr : Room 1 (A.deeper (envOfC "can_go" (defScope s_can_go) s.heap.objs.size f cdv))) :
    PSs (cxOf (L2.CX PG w) PG w K mg base ["arcs", "load", "at", "way"] "can_go" (defScope s_can_go) f cdv A outer s H E).nox (defBody s_can_go) (t_can_go K T.C E) :=
    (pss_one (ps_ret (pe_cmpR (op_neD hr.units) (pe_call G_left_of (hr.mono (by decide)) rfl T.f_left_of.g T.f_left_of.F.kp T.f_left_of.b .nil passL (pa_cons (pv 0) (pa_cons (pv 1) (pa_cons (pv 2) (pa_cons (pv 3) pa_nil))))) pe_int (nomark _))))
abbrev s_side_of : Stmt := topS 30
theorem sc_side_of : FnScope ["arcs", "step", "tail", "head", "most"] ["arcs", "step"] (defScope s_side_of) := ⟨rfl, rfl, rfl, by decide +kernel, rfl, by decide +kernel, by decide +kernel⟩
def t_side_of (K : PySem.W.Frag) (C : Addr) (E : XK) : TS :=
    (tSeq (tAsg (tOp (rIx K) (tVar 0) (tOp (rIx K) (tVar 1) (tC (.int 0)))) (gTup K 3 (gCons (gName 2) (gCons (gName 3) (gCons (gName 4) gNil)))))
    (tRet (tIf (tTest (tOp (rEqD K) (tOp (rIx K) (tVar 1) (tC (.int 1))) (tC (.int (1))))) (tTup (tCons (tVar 2) (tCons (tVar 3) tNil))) (tTup (tCons (tVar 3) (tCons (tVar 2) tNil))))))
theorem d_side_of (T : Txt K mg)  (f : Addr) (cdv : Value) (A : Around) (outer : List Env) (s : Shared) (H : Hp) (E : XK) (hr : Room 0 (A.deeper (envOfC "side_of" (defScope s_side_of) s.heap.objs.size f cdv))) :
    PSs (cxOf (L2.CX PG w) PG w K mg base ["arcs", "step", "tail", "head", "most"] "side_of" (defScope s_side_of) f cdv A outer s H E).nox (defBody s_side_of) (t_side_of K T.C E) :=
    (pss_cons (ps_asg (pe_ix ix_seq (pv 0) (pe_ix ix_seq (pv 1) pe_int (fun _ _ => rfl)) (fun _ _ => rfl)) (pg_tup rfl (pgs_cons (pg_name (i := 2) sc_side_of.nd rfl (Or.inl rfl)) (pgs_cons (pg_name (i := 3) sc_side_of.nd rfl (Or.inl rfl)) (pgs_cons (pg_name (i := 4) sc_side_of.nd rfl (Or.inl rfl)) pgs_nil)))))
      (pss_one (ps_ret (pe_ifExp (pt_cmpR (op_eqD hr.units) (pe_ix ix_seq (pv 1) pe_int (fun _ _ => rfl)) (pe_glob rfl T.mg_FORTH ⟨_, rfl⟩) (nomark _)) (pe_tup (pa_cons (pv 2) (pa_cons (pv 3) pa_nil))) (pe_tup (pa_cons (pv 3) (pa_cons (pv 2) pa_nil)))))))
abbrev s_leads_of : Stmt := topS 31
theorem sc_leads_of : FnScope ["many", "arcs", "found", "at", "tail", "head", "most", "_", "row"] ["many", "arcs"] (defScope s_leads_of) := ⟨rfl, rfl, rfl, by decide +kernel, rfl, by decide +kernel, by decide +kernel⟩
def t_leads_of (K : PySem.W.Frag) (C : Addr) (E : XK) : TS :=
    (tSeq (tAsg (tLc (iRng1 (tCons (tVar 0) tNil)) (gName 7) tYes (tLst tNil) [7]) (gName 2))
    (tSeq (tFor (iEnumT K (tCons (tVar 1) tNil)) (gTup K 2 (gCons (gName 3) (gCons (gTup K 3 (gCons (gName 4) (gCons (gName 5) (gCons (gName 6) gNil)))) gNil))) (tSeq (tDrop (tBM K "list" rAppend (tOp (rIx K) (tVar 2) (tVar 4)) (tCons (tTup (tCons (tVar 3) (tCons (tC (.int (1))) (tCons (tVar 5) tNil)))) tNil)))
    (tDrop (tBM K "list" rAppend (tOp (rIx K) (tVar 2) (tVar 5)) (tCons (tTup (tCons (tVar 3) (tCons (tC (.int (-1))) (tCons (tVar 4) tNil)))) tNil)))))
    (tRet (tCB (rTupOf K) (tCons (tLc (iSeq K (tVar 2)) (gName 8) tYes (tCB (rTupOf K) (tCons (tVar 8) tNil)) [8]) tNil)))))
theorem d_leads_of (T : Txt K mg)  (f : Addr) (cdv : Value) (A : Around) (outer : List Env) (s : Shared) (H : Hp) (E : XK) (hr : Room 0 (A.deeper (envOfC "leads_of" (defScope s_leads_of) s.heap.objs.size f cdv))) :
    PSs (cxOf (L2.CX PG w) PG w K mg base ["many", "arcs", "found", "at", "tail", "head", "most", "_", "row"] "leads_of" (defScope s_leads_of) f cdv A outer s H E).nox (defBody s_leads_of) (t_leads_of K T.C E) :=
    (pss_cons (ps_setLc (i := 2) (own := [("_", 7)]) (g := (gName 7)) (tt := tYes) rfl sc_leads_of.nd rfl rfl (sw_true rfl rfl rfl (by decide +kernel)) (pi_range1 rfl T.mg_range (pa_cons (pv 0) pa_nil)) (blkOk_by (N := ["many", "arcs", "found", "at", "tail", "head", "most", "_", "row"]) (sc := defScope s_leads_of) (by decide +kernel)) (fun _ _ _ _ _ => (pg_name (i := 7) sc_leads_of.nd rfl (by first | exact Or.inl rfl | exact Or.inr rfl))) (fun _ _ _ _ _ => pts_nil) (fun _ _ _ _ _ => (pe_lst pa_nil)))
      (pss_cons (ps_for PassesOwn.never rfl (pi_enumT (by rfl) T.mg_enumerate (pa_cons (pv 1) pa_nil)) (pg_tup rfl (pgs_cons (pg_name (i := 3) sc_leads_of.nd rfl (Or.inl rfl)) (pgs_cons (pg_tup rfl (pgs_cons (pg_name (i := 4) sc_leads_of.nd rfl (Or.inl rfl)) (pgs_cons (pg_name (i := 5) sc_leads_of.nd rfl (Or.inl rfl)) (pgs_cons (pg_name (i := 6) sc_leads_of.nd rfl (Or.inl rfl)) pgs_nil)))) pgs_nil))) (pss_cons (ps_expr (pe_bm PySem.F.plainAttrs_list PySem.F.slot_list_append PySem.F.type_list_append mt_append (pe_ix ix_seq (pv 2) (pv 4) (fun _ _ => rfl)) (pa_cons (pe_tup (pa_cons (pv 3) (pa_cons (pe_glob rfl T.mg_FORTH ⟨_, rfl⟩) (pa_cons (pv 5) pa_nil)))) pa_nil)))
      (pss_one (ps_expr (pe_bm PySem.F.plainAttrs_list PySem.F.slot_list_append PySem.F.type_list_append mt_append (pe_ix ix_seq (pv 2) (pv 5) (fun _ _ => rfl)) (pa_cons (pe_tup (pa_cons (pv 3) (pa_cons (pe_glob rfl T.mg_BACK ⟨_, rfl⟩) (pa_cons (pv 4) pa_nil)))) pa_nil))))))
      (pss_one (ps_ret (pe_callTy call_tuple_of (by rfl) T.mg_tuple bt_tuple (pa_cons (pe_lc (own := [("row", 8)]) (g := (gName 8)) (tt := tYes) rfl sc_leads_of.nd (pi_seq (pv 2)) (blkOk_by (N := ["many", "arcs", "found", "at", "tail", "head", "most", "_", "row"]) (sc := defScope s_leads_of) (by decide +kernel)) (fun _ _ _ _ _ => (pg_name (i := 8) sc_leads_of.nd rfl (by first | exact Or.inl rfl | exact Or.inr rfl))) (fun _ _ _ _ _ => pts_nil) (fun _ _ _ _ _ => (pe_callTy call_tuple_of (by rfl) T.mg_tuple bt_tuple (pa_cons (pv 8) pa_nil)))) pa_nil))))))
abbrev s_come_by : Stmt := topS 32
theorem sc_come_by : FnScope ["leads", "arcs", "load", "start", "found", "line", "here", "at", "way", "there"] ["leads", "arcs", "load", "start"] (defScope s_come_by) := ⟨rfl, rfl, rfl, by decide +kernel, rfl, by decide +kernel, by decide +kernel⟩
def t_come_by (K : PySem.W.Frag) (C : Addr) (E : XK) : TS :=
    (tSeq (tPar3 4 5 6 (tCons (tDisp [((tVar 3), (tC .non))]) (tCons (tLst (tCons (tVar 3) tNil)) (tCons (tC (.int 0)) tNil))))
    (tSeq (tWhile (tTest (tOp (rI0 fun i j => .bl (decide (i < j))) (tVar 6) (tCB (rLen K) (tCons (tVar 5) tNil)))) (tSeq (tFor (iSeq K (tOp (rIx K) (tVar 0) (tOp (rIx K) (tVar 5) (tVar 6)))) (gTup K 3 (gCons (gName 7) (gCons (gName 8) (gCons (gName 9) gNil)))) (tIfS (tAnd (tB (tDNotIn (tVar 9) (tVar 4))) (tB (tCall (sp_can_go C) [] E0 (tCons (tVar 1) (tCons (tVar 2) (tCons (tVar 7) (tCons (tVar 8) tNil))))))) (tSeq (sDPut (tVar 4) (tVar 9) (tTup (tCons (tVar 7) (tCons (tVar 8) tNil))))
    (tDrop (tBM K "list" rAppend (tVar 5) (tCons (tVar 9) tNil)))) tNext))
    (tAug 6 (tC (.int 1)) (ipI fun i j => i + j))))
    (tRet (tVar 4))))
theorem d_come_by (T : Txt K mg) (G_can_go : FnOk PG w K mg base (L2.CX PG w) 2 T.f_can_go.f T.f_can_go.fd ["arcs", "load", "at", "way"] (sp_can_go T.C)) (f : Addr) (cdv : Value) (A : Around) (outer : List Env) (s : Shared) (H : Hp) (E : XK) (hr : Room 2 (A.deeper (envOfC "come_by" (defScope s_come_by) s.heap.objs.size f cdv))) :
    PSs (cxOf (L2.CX PG w) PG w K mg base ["leads", "arcs", "load", "start", "found", "line", "here", "at", "way", "there"] "come_by" (defScope s_come_by) f cdv A outer s H E).nox (defBody s_come_by) (t_come_by K T.C E) :=
    (pss_cons (ps_par3 (i := 4) (j := 5) (l := 6) rfl sc_come_by.nd rfl rfl rfl (by decide) (by decide) (by decide) rfl rfl rfl (pa_cons (pe_disp1 (pv 3) pe_non) (pa_cons (pe_lst (pa_cons (pv 3) pa_nil)) (pa_cons pe_int pa_nil))) (by rfl))
      (pss_cons (ps_while PassesOwn.never (pt_cmpR op_lt (pv 6) (pe_callB call_len_seq (by rfl) T.mg_len bt_len (pa_cons (pv 5) pa_nil)) (nomark _)) (pss_cons (ps_for PassesOwn.never rfl (pi_seq (pe_ix ix_seq (pv 0) (pe_ix ix_seq (pv 5) (pv 6) (fun _ _ => rfl)) (fun _ _ => rfl))) (pg_tup rfl (pgs_cons (pg_name (i := 7) sc_come_by.nd rfl (Or.inl rfl)) (pgs_cons (pg_name (i := 8) sc_come_by.nd rfl (Or.inl rfl)) (pgs_cons (pg_name (i := 9) sc_come_by.nd rfl (Or.inl rfl)) pgs_nil)))) (pss_one (ps_if (PW.pt (pw_and (pt_cmp (pc_dnotin (hu_of hr) (pv 9) (pv 4))) (pw_and1 (pt_val (pe_call G_can_go (hr.mono (by decide)) rfl T.f_can_go.g T.f_can_go.F.kp T.f_can_go.b .nil passL (pa_cons (pv 1) (pa_cons (pv 2) (pa_cons (pv 7) (pa_cons (pv 8) pa_nil))))))))) (pss_cons (ps_dput (hu_of hr) (pv 4) (pv 9) (pe_tup (pa_cons (pv 7) (pa_cons (pv 8) pa_nil))) rfl)
      (pss_one (ps_expr (pe_bm PySem.F.plainAttrs_list PySem.F.slot_list_append PySem.F.type_list_append mt_append (pv 5) (pa_cons (pv 9) pa_nil))))) pss_nil)))
      (pss_one (ps_aug (i := 6) sc_come_by.nd rfl (Or.inl rfl) pe_int ip_add))))
      (pss_one (ps_ret (pv 4)))))
abbrev s_traced : Stmt := topS 33
theorem sc_traced : FnScope ["arcs", "found", "node", "steps", "here"] ["arcs", "found", "node"] (defScope s_traced) := ⟨rfl, rfl, rfl, by decide +kernel, rfl, by decide +kernel, by decide +kernel⟩
def t_traced (K : PySem.W.Frag) (C : Addr) (E : XK) : TS :=
    (tSeq (tPar 3 4 (tCons (tLst tNil) (tCons (tVar 2) tNil)))
    (tSeq (tWhile (tTest (tOp (fun x y H Q => y = .non ∧ Q (.bl (!decide (x = .non))) H) (tDGet (tVar 1) (tVar 4)) (tC .non))) (tSeq (tDrop (tBM K "list" rAppend (tVar 3) (tCons (tDGet (tVar 1) (tVar 4)) tNil)))
    (tAsg (tOp (rIx K) (tCall (sp_side_of C) [] E0 (tCons (tVar 0) (tCons (tDGet (tVar 1) (tVar 4)) tNil))) (tC (.int 0))) (gName 4))))
    (tRet (tCB (rTupOf K) (tCons (tRevL K (tVar 3)) tNil)))))
theorem d_traced (T : Txt K mg) (G_side_of : FnOk PG w K mg base (L2.CX PG w) 1 T.f_side_of.f T.f_side_of.fd ["arcs", "step"] (sp_side_of T.C)) (f : Addr) (cdv : Value) (A : Around) (outer : List Env) (s : Shared) (H : Hp) (E : XK) (hr : Room 1 (A.deeper (envOfC "traced" (defScope s_traced) s.heap.objs.size f cdv))) :
    PSs (cxOf (L2.CX PG w) PG w K mg base ["arcs", "found", "node", "steps", "here"] "traced" (defScope s_traced) f cdv A outer s H E).nox (defBody s_traced) (t_traced K T.C E) :=
    (pss_cons (ps_par (i := 3) (j := 4) rfl sc_traced.nd rfl rfl (by decide) rfl rfl (pa_cons (pe_lst pa_nil) (pa_cons (pv 2) pa_nil)) (by rfl))
      (pss_cons (ps_while PassesOwn.never (pt_cmpR op_notN (pe_dget (hu_of hr) (pv 1) (pv 4) (fun _ _ => rfl)) pe_non (nomark _)) (pss_cons (ps_expr (pe_bm PySem.F.plainAttrs_list PySem.F.slot_list_append PySem.F.type_list_append mt_append (pv 3) (pa_cons (pe_dget (hu_of hr) (pv 1) (pv 4) (fun _ _ => rfl)) pa_nil)))
      (pss_one (ps_set (i := 4) sc_traced.nd rfl (Or.inl rfl) (pe_ix ix_seq (pe_call G_side_of (hr.mono (by decide)) rfl T.f_side_of.g T.f_side_of.F.kp T.f_side_of.b .nil passL (pa_cons (pv 0) (pa_cons (pe_dget (hu_of hr) (pv 1) (pv 4) (fun _ _ => rfl)) pa_nil))) pe_int (fun _ _ => rfl))))))
      (pss_one (ps_ret (pe_callTy call_tuple_of (by rfl) T.mg_tuple bt_tuple (pa_cons (pe_revL (pv 3)) pa_nil))))))
abbrev s_walk : Stmt := topS 34
theorem sc_walk : FnScope ["net", "flow", "start", "ends", "many", "arcs", "load", "goals", "found", "some", "node"] ["net", "flow", "start", "ends"] (defScope s_walk) := ⟨rfl, rfl, rfl, by decide +kernel, rfl, by decide +kernel, by decide +kernel⟩
def t_walk (K : PySem.W.Frag) (C : Addr) (E : XK) : TS :=
    (tSeq (tAsg (tCall (sp_check_net C) [] E0 (tCons (tVar 0) tNil)) (gTup K 2 (gCons (gName 4) (gCons (gName 5) gNil))))
    (tSeq (tAsg (tCall (sp_need_load C) [] E0 (tCons (tVar 5) (tCons (tVar 1) tNil))) (gName 6))
    (tSeq (tAsg (tCall (sp_need_ends C) [] E0 (tCons (tVar 4) (tCons (tVar 2) (tCons (tVar 3) tNil)))) (gName 7))
    (tSeq (tAsg (tCall (sp_come_by C) [] E0 (tCons (tCall (sp_leads_of C) [] E0 (tCons (tVar 4) (tCons (tVar 5) tNil))) (tCons (tVar 5) (tCons (tVar 6) (tCons (tVar 2) tNil))))) (gName 8))
    (tSeq (tAsg (tLc (iSeq K (tVar 7)) (gName 10) (tB (tDIn (tVar 10) (tVar 8))) (tVar 10) [10]) (gName 9))
    (tRet (tIf (tTest (tOp (rI0 fun i j => .bl (decide (j < i))) (tCB (rLen K) (tCons (tVar 9) tNil)) (tC (.int 0)))) (tCall (sp_traced C) [] E0 (tCons (tVar 5) (tCons (tVar 8) (tCons (tOp (rIx K) (tVar 9) (tC (.int 0))) tNil)))) (tC .non))))))))
theorem d_walk (T : Txt K mg) (G_check_net : FnOk PG w K mg base (L2.CX PG w) 5 T.f_check_net.f T.f_check_net.fd ["value"] (sp_check_net T.C)) (G_need_ends : FnOk PG w K mg base (L2.CX PG w) 5 T.f_need_ends.f T.f_need_ends.fd ["many", "start", "ends"] (sp_need_ends T.C)) (G_need_load : FnOk PG w K mg base (L2.CX PG w) 4 T.f_need_load.f T.f_need_load.fd ["arcs", "value"] (sp_need_load T.C)) (G_leads_of : FnOk PG w K mg base (L2.CX PG w) 1 T.f_leads_of.f T.f_leads_of.fd ["many", "arcs"] (sp_leads_of T.C)) (G_come_by : FnOk PG w K mg base (L2.CX PG w) 3 T.f_come_by.f T.f_come_by.fd ["leads", "arcs", "load", "start"] (sp_come_by T.C)) (G_traced : FnOk PG w K mg base (L2.CX PG w) 2 T.f_traced.f T.f_traced.fd ["arcs", "found", "node"] (sp_traced T.C)) (f : Addr) (cdv : Value) (A : Around) (outer : List Env) (s : Shared) (H : Hp) (E : XK) (hr : Room 5 (A.deeper (envOfC "walk" (defScope s_walk) s.heap.objs.size f cdv))) :
    PSs (cxOf (L2.CX PG w) PG w K mg base ["net", "flow", "start", "ends", "many", "arcs", "load", "goals", "found", "some", "node"] "walk" (defScope s_walk) f cdv A outer s H E) (defBody s_walk) (t_walk K T.C E) :=
    (pss_cons (ps_asg (pe_call G_check_net (hr.mono (by decide)) rfl T.f_check_net.g T.f_check_net.F.kp T.f_check_net.b .nil passL (pa_cons (pv 0) pa_nil)) (pg_tup rfl (pgs_cons (pg_name (i := 4) sc_walk.nd rfl (Or.inl rfl)) (pgs_cons (pg_name (i := 5) sc_walk.nd rfl (Or.inl rfl)) pgs_nil))))
      (pss_cons (ps_set (i := 6) sc_walk.nd rfl (Or.inl rfl) (pe_call G_need_load (hr.mono (by decide)) rfl T.f_need_load.g T.f_need_load.F.kp T.f_need_load.b .nil passL (pa_cons (pv 5) (pa_cons (pv 1) pa_nil))))
      (pss_cons (ps_set (i := 7) sc_walk.nd rfl (Or.inl rfl) (pe_call G_need_ends (hr.mono (by decide)) rfl T.f_need_ends.g T.f_need_ends.F.kp T.f_need_ends.b .nil passL (pa_cons (pv 4) (pa_cons (pv 2) (pa_cons (pv 3) pa_nil)))))
      (pss_cons (ps_set (i := 8) sc_walk.nd rfl (Or.inr rfl) (pe_call G_come_by (hr.mono (by decide)) rfl T.f_come_by.g T.f_come_by.F.kp T.f_come_by.b .nil passL (pa_cons (pe_call G_leads_of (hr.mono (by decide)) rfl T.f_leads_of.g T.f_leads_of.F.kp T.f_leads_of.b .nil passL (pa_cons (pv 4) (pa_cons (pv 5) pa_nil))) (pa_cons (pv 5) (pa_cons (pv 6) (pa_cons (pv 2) pa_nil))))))
      (pss_cons (ps_setLc (i := 9) (own := [("node", 10)]) (g := (gName 10)) (tt := (tB (tDIn (tVar 10) (tVar 8)))) rfl sc_walk.nd rfl rfl (sw_true rfl rfl rfl (by decide +kernel)) (pi_seq (pv 7)) (blkOk_by (N := ["net", "flow", "start", "ends", "many", "arcs", "load", "goals", "found", "some", "node"]) (sc := defScope s_walk) (by decide +kernel)) (fun _ _ _ _ _ => (pg_name (i := 10) sc_walk.nd rfl (by first | exact Or.inl rfl | exact Or.inr rfl))) (fun _ _ _ _ _ => (pts_one (pt_cmp (pc_din (hu_of hr) (pv 10) (pv 8))))) (fun _ _ _ _ _ => (pv 10)))
      (pss_one (ps_ret (pe_ifExp (pt_cmpR op_gt (pe_callB call_len_seq (by rfl) T.mg_len bt_len (pa_cons (pv 9) pa_nil)) pe_int (nomark _)) (pe_call G_traced (hr.mono (by decide)) rfl T.f_traced.g T.f_traced.F.kp T.f_traced.b .nil passL (pa_cons (pv 5) (pa_cons (pv 8) (pa_cons (pe_ix ix_seq (pv 9) pe_int (fun _ _ => rfl)) pa_nil)))) pe_non))))))))
abbrev s_reached : Stmt := topS 35
theorem sc_reached : FnScope ["net", "flow", "start", "many", "arcs", "load"] ["net", "flow", "start"] (defScope s_reached) := ⟨rfl, rfl, rfl, by decide +kernel, rfl, by decide +kernel, by decide +kernel⟩
def t_reached (K : PySem.W.Frag) (C : Addr) (E : XK) : TS :=
    (tSeq (tAsg (tCall (sp_check_net C) [] E0 (tCons (tVar 0) tNil)) (gTup K 2 (gCons (gName 3) (gCons (gName 4) gNil))))
    (tSeq (tAsg (tCall (sp_need_load C) [] E0 (tCons (tVar 4) (tCons (tVar 1) tNil))) (gName 5))
    (tSeq (tDrop (tCall (sp_need_node C) [] E0 (tCons (tVar 3) (tCons (tVar 2) tNil))))
    (tRet (tCB (rTupOf K) (tCons (tCB (rSortedI K) (tCons (tCB rListD (tCons (tCall (sp_come_by C) [] E0 (tCons (tCall (sp_leads_of C) [] E0 (tCons (tVar 3) (tCons (tVar 4) tNil))) (tCons (tVar 4) (tCons (tVar 5) (tCons (tVar 2) tNil))))) tNil)) tNil)) tNil))))))
theorem d_reached (T : Txt K mg) (G_check_net : FnOk PG w K mg base (L2.CX PG w) 5 T.f_check_net.f T.f_check_net.fd ["value"] (sp_check_net T.C)) (G_need_node : FnOk PG w K mg base (L2.CX PG w) 4 T.f_need_node.f T.f_need_node.fd ["many", "value"] (sp_need_node T.C)) (G_need_load : FnOk PG w K mg base (L2.CX PG w) 4 T.f_need_load.f T.f_need_load.fd ["arcs", "value"] (sp_need_load T.C)) (G_leads_of : FnOk PG w K mg base (L2.CX PG w) 1 T.f_leads_of.f T.f_leads_of.fd ["many", "arcs"] (sp_leads_of T.C)) (G_come_by : FnOk PG w K mg base (L2.CX PG w) 3 T.f_come_by.f T.f_come_by.fd ["leads", "arcs", "load", "start"] (sp_come_by T.C)) (f : Addr) (cdv : Value) (A : Around) (outer : List Env) (s : Shared) (H : Hp) (E : XK) (hr : Room 5 (A.deeper (envOfC "reached" (defScope s_reached) s.heap.objs.size f cdv))) :
    PSs (cxOf (L2.CX PG w) PG w K mg base ["net", "flow", "start", "many", "arcs", "load"] "reached" (defScope s_reached) f cdv A outer s H E) (defBody s_reached) (t_reached K T.C E) :=
    (pss_cons (ps_asg (pe_call G_check_net (hr.mono (by decide)) rfl T.f_check_net.g T.f_check_net.F.kp T.f_check_net.b .nil passL (pa_cons (pv 0) pa_nil)) (pg_tup rfl (pgs_cons (pg_name (i := 3) sc_reached.nd rfl (Or.inl rfl)) (pgs_cons (pg_name (i := 4) sc_reached.nd rfl (Or.inl rfl)) pgs_nil))))
      (pss_cons (ps_set (i := 5) sc_reached.nd rfl (Or.inl rfl) (pe_call G_need_load (hr.mono (by decide)) rfl T.f_need_load.g T.f_need_load.F.kp T.f_need_load.b .nil passL (pa_cons (pv 4) (pa_cons (pv 1) pa_nil))))
      (pss_cons (ps_expr (pe_call G_need_node (hr.mono (by decide)) rfl T.f_need_node.g T.f_need_node.F.kp T.f_need_node.b .nil passL (pa_cons (pv 3) (pa_cons (pv 2) pa_nil))))
      (pss_one (ps_ret (pe_callTy call_tuple_of (by rfl) T.mg_tuple bt_tuple (pa_cons (pe_callB cr_sortedI (by rfl) T.mg_sorted bt_sorted (pa_cons (pe_callTy (call_list_dK rfl) (by rfl) T.mg_list bt_list (pa_cons (pe_call G_come_by (hr.mono (by decide)) rfl T.f_come_by.g T.f_come_by.F.kp T.f_come_by.b .nil passL (pa_cons (pe_call G_leads_of (hr.mono (by decide)) rfl T.f_leads_of.g T.f_leads_of.F.kp T.f_leads_of.b .nil passL (pa_cons (pv 3) (pa_cons (pv 4) pa_nil))) (pa_cons (pv 4) (pa_cons (pv 5) (pa_cons (pv 2) pa_nil))))) pa_nil)) pa_nil)) pa_nil)))))))
abbrev s_reaching : Stmt := topS 36
theorem sc_reaching : FnScope ["net", "flow", "goal", "many", "arcs", "load", "turned", "arc"] ["net", "flow", "goal"] (defScope s_reaching) := ⟨rfl, rfl, rfl, by decide +kernel, rfl, by decide +kernel, by decide +kernel⟩
def t_reaching (K : PySem.W.Frag) (C : Addr) (E : XK) : TS :=
    (tSeq (tAsg (tCall (sp_check_net C) [] E0 (tCons (tVar 0) tNil)) (gTup K 2 (gCons (gName 3) (gCons (gName 4) gNil))))
    (tSeq (tAsg (tCall (sp_need_load C) [] E0 (tCons (tVar 4) (tCons (tVar 1) tNil))) (gName 5))
    (tSeq (tDrop (tCall (sp_need_node C) [] E0 (tCons (tVar 3) (tCons (tVar 2) tNil))))
    (tSeq (tAsg (tCB (rTupOf K) (tCons (tLc (iSeq K (tVar 4)) (gName 7) tYes (tTup (tCons (tOp (rIx K) (tVar 7) (tC (.int 1))) (tCons (tOp (rIx K) (tVar 7) (tC (.int 0))) (tCons (tOp (rIx K) (tVar 7) (tC (.int 2))) tNil)))) [7]) tNil)) (gName 6))
    (tRet (tCB (rTupOf K) (tCons (tCB (rSortedI K) (tCons (tCB rListD (tCons (tCall (sp_come_by C) [] E0 (tCons (tCall (sp_leads_of C) [] E0 (tCons (tVar 3) (tCons (tVar 6) tNil))) (tCons (tVar 6) (tCons (tVar 5) (tCons (tVar 2) tNil))))) tNil)) tNil)) tNil)))))))
theorem d_reaching (T : Txt K mg) (G_check_net : FnOk PG w K mg base (L2.CX PG w) 5 T.f_check_net.f T.f_check_net.fd ["value"] (sp_check_net T.C)) (G_need_node : FnOk PG w K mg base (L2.CX PG w) 4 T.f_need_node.f T.f_need_node.fd ["many", "value"] (sp_need_node T.C)) (G_need_load : FnOk PG w K mg base (L2.CX PG w) 4 T.f_need_load.f T.f_need_load.fd ["arcs", "value"] (sp_need_load T.C)) (G_leads_of : FnOk PG w K mg base (L2.CX PG w) 1 T.f_leads_of.f T.f_leads_of.fd ["many", "arcs"] (sp_leads_of T.C)) (G_come_by : FnOk PG w K mg base (L2.CX PG w) 3 T.f_come_by.f T.f_come_by.fd ["leads", "arcs", "load", "start"] (sp_come_by T.C)) (f : Addr) (cdv : Value) (A : Around) (outer : List Env) (s : Shared) (H : Hp) (E : XK) (hr : Room 5 (A.deeper (envOfC "reaching" (defScope s_reaching) s.heap.objs.size f cdv))) :
    PSs (cxOf (L2.CX PG w) PG w K mg base ["net", "flow", "goal", "many", "arcs", "load", "turned", "arc"] "reaching" (defScope s_reaching) f cdv A outer s H E) (defBody s_reaching) (t_reaching K T.C E) :=
    (pss_cons (ps_asg (pe_call G_check_net (hr.mono (by decide)) rfl T.f_check_net.g T.f_check_net.F.kp T.f_check_net.b .nil passL (pa_cons (pv 0) pa_nil)) (pg_tup rfl (pgs_cons (pg_name (i := 3) sc_reaching.nd rfl (Or.inl rfl)) (pgs_cons (pg_name (i := 4) sc_reaching.nd rfl (Or.inl rfl)) pgs_nil))))
      (pss_cons (ps_set (i := 5) sc_reaching.nd rfl (Or.inl rfl) (pe_call G_need_load (hr.mono (by decide)) rfl T.f_need_load.g T.f_need_load.F.kp T.f_need_load.b .nil passL (pa_cons (pv 4) (pa_cons (pv 1) pa_nil))))
      (pss_cons (ps_expr (pe_call G_need_node (hr.mono (by decide)) rfl T.f_need_node.g T.f_need_node.F.kp T.f_need_node.b .nil passL (pa_cons (pv 3) (pa_cons (pv 2) pa_nil))))
      (pss_cons (ps_set (i := 6) sc_reaching.nd rfl (Or.inl rfl) (pe_callTy call_tuple_of (by rfl) T.mg_tuple bt_tuple (pa_cons (pe_lc (own := [("arc", 7)]) (g := (gName 7)) (tt := tYes) rfl sc_reaching.nd (pi_seq (pv 4)) (blkOk_by (N := ["net", "flow", "goal", "many", "arcs", "load", "turned", "arc"]) (sc := defScope s_reaching) (by decide +kernel)) (fun _ _ _ _ _ => (pg_name (i := 7) sc_reaching.nd rfl (by first | exact Or.inl rfl | exact Or.inr rfl))) (fun _ _ _ _ _ => pts_nil) (fun _ _ _ _ _ => (pe_tup (pa_cons (pe_ix ix_seq (pv 7) pe_int (fun _ _ => rfl)) (pa_cons (pe_ix ix_seq (pv 7) pe_int (fun _ _ => rfl)) (pa_cons (pe_ix ix_seq (pv 7) pe_int (fun _ _ => rfl)) pa_nil)))))) pa_nil)))
      (pss_one (ps_ret (pe_callTy call_tuple_of (by rfl) T.mg_tuple bt_tuple (pa_cons (pe_callB cr_sortedI (by rfl) T.mg_sorted bt_sorted (pa_cons (pe_callTy (call_list_dK rfl) (by rfl) T.mg_list bt_list (pa_cons (pe_call G_come_by (hr.mono (by decide)) rfl T.f_come_by.g T.f_come_by.F.kp T.f_come_by.b .nil passL (pa_cons (pe_call G_leads_of (hr.mono (by decide)) rfl T.f_leads_of.g T.f_leads_of.F.kp T.f_leads_of.b .nil passL (pa_cons (pv 3) (pa_cons (pv 6) pa_nil))) (pa_cons (pv 6) (pa_cons (pv 5) (pa_cons (pv 2) pa_nil))))) pa_nil)) pa_nil)) pa_nil))))))))
abbrev s_least_left : Stmt := topS 37
theorem sc_least_left : FnScope ["arcs", "load", "steps", "found", "known", "at", "way", "one"] ["arcs", "load", "steps"] (defScope s_least_left) := ⟨rfl, rfl, rfl, by decide +kernel, rfl, by decide +kernel, by decide +kernel⟩
def t_least_left (K : PySem.W.Frag) (C : Addr) (E : XK) : TS :=
    (tSeq (tAsg (tLc (iSeq K (tVar 2)) (gTup K 2 (gCons (gName 5) (gCons (gName 6) gNil))) tYes (tCall (sp_left_of C) [] E0 (tCons (tVar 0) (tCons (tVar 1) (tCons (tVar 5) (tCons (tVar 6) tNil))))) [5, 6]) (gName 3))
    (tSeq (tAsg (tLc (iSeq K (tVar 3)) (gName 7) (tTest (tOp (fun x y H Q => y = .non ∧ Q (.bl (!decide (x = .non))) H) (tVar 7) (tC .non))) (tVar 7) [7]) (gName 4))
    (tRet (tIf (tTest (tOp (rI0 fun i j => .bl (decide (j < i))) (tCB (rLen K) (tCons (tVar 4) tNil)) (tC (.int 0)))) (tCB (rMin K) (tCons (tVar 4) tNil)) (tC .non)))))
theorem d_least_left (T : Txt K mg) (G_left_of : FnOk PG w K mg base (L2.CX PG w) 1 T.f_left_of.f T.f_left_of.fd ["arcs", "load", "at", "way"] (sp_left_of T.C)) (f : Addr) (cdv : Value) (A : Around) (outer : List Env) (s : Shared) (H : Hp) (E : XK) (hr : Room 1 (A.deeper (envOfC "least_left" (defScope s_least_left) s.heap.objs.size f cdv))) :
    PSs (cxOf (L2.CX PG w) PG w K mg base ["arcs", "load", "steps", "found", "known", "at", "way", "one"] "least_left" (defScope s_least_left) f cdv A outer s H E).nox (defBody s_least_left) (t_least_left K T.C E) :=
    (pss_cons (ps_setLc (i := 3) (own := [("at", 5), ("way", 6)]) (g := (gTup K 2 (gCons (gName 5) (gCons (gName 6) gNil)))) (tt := tYes) rfl sc_least_left.nd rfl rfl (sw_true rfl rfl rfl (by decide +kernel)) (pi_seq (pv 2)) (blkOk_by (N := ["arcs", "load", "steps", "found", "known", "at", "way", "one"]) (sc := defScope s_least_left) (by decide +kernel)) (fun _ _ _ _ _ => (pg_tup rfl (pgs_cons (pg_name (i := 5) sc_least_left.nd rfl (by first | exact Or.inl rfl | exact Or.inr rfl)) (pgs_cons (pg_name (i := 6) sc_least_left.nd rfl (by first | exact Or.inl rfl | exact Or.inr rfl)) pgs_nil)))) (fun _ _ _ _ _ => pts_nil) (fun _ _ _ _ _ => (pe_call G_left_of (hr.mono (by decide)) rfl T.f_left_of.g T.f_left_of.F.kp T.f_left_of.b .nil passL (pa_cons (pv 0) (pa_cons (pv 1) (pa_cons (pv 5) (pa_cons (pv 6) pa_nil)))))))
      (pss_cons (ps_setLc (i := 4) (own := [("one", 7)]) (g := (gName 7)) (tt := (tTest (tOp (fun x y H Q => y = .non ∧ Q (.bl (!decide (x = .non))) H) (tVar 7) (tC .non)))) rfl sc_least_left.nd rfl rfl (sw_true rfl rfl rfl (by decide +kernel)) (pi_seq (pv 3)) (blkOk_by (N := ["arcs", "load", "steps", "found", "known", "at", "way", "one"]) (sc := defScope s_least_left) (by decide +kernel)) (fun _ _ _ _ _ => (pg_name (i := 7) sc_least_left.nd rfl (by first | exact Or.inl rfl | exact Or.inr rfl))) (fun _ _ _ _ _ => (pts_one (pt_cmpR op_notN (pv 7) pe_non (nomark _)))) (fun _ _ _ _ _ => (pv 7)))
      (pss_one (ps_ret (pe_ifExp (pt_cmpR op_gt (pe_callB call_len_seq (by rfl) T.mg_len bt_len (pa_cons (pv 4) pa_nil)) pe_int (nomark _)) (pe_callB (cr_min rfl) (by rfl) T.mg_min bt_min (pa_cons (pv 4) pa_nil)) pe_non)))))
abbrev s_gone : Stmt := topS 38
theorem sc_gone : FnScope ["load", "steps", "many", "found", "at", "way"] ["load", "steps", "many"] (defScope s_gone) := ⟨rfl, rfl, rfl, by decide +kernel, rfl, by decide +kernel, by decide +kernel⟩
def t_gone (K : PySem.W.Frag) (C : Addr) (E : XK) : TS :=
    (tSeq (tAsg (tCB (rListOf K) (tCons (tVar 0) tNil)) (gName 3))
    (tSeq (tFor (iSeq K (tVar 1)) (gTup K 2 (gCons (gName 4) (gCons (gName 5) gNil))) (tAugS (tVar 3) (tVar 4) (tOp (rI CMul fun i j => .int (i * j)) (tVar 5) (tVar 2)) (rIxL K) (ipI fun i j => i + j) rSetL))
    (tRet (tCB (rTupOf K) (tCons (tVar 3) tNil)))))
theorem d_gone (T : Txt K mg)  (f : Addr) (cdv : Value) (A : Around) (outer : List Env) (s : Shared) (H : Hp) (E : XK) (hr : Room 0 (A.deeper (envOfC "gone" (defScope s_gone) s.heap.objs.size f cdv))) :
    PSs (cxOf (L2.CX PG w) PG w K mg base ["load", "steps", "many", "found", "at", "way"] "gone" (defScope s_gone) f cdv A outer s H E).nox (defBody s_gone) (t_gone K T.C E) :=
    (pss_cons (ps_set (i := 3) sc_gone.nd rfl (Or.inl rfl) (pe_callTy call_list_of (by rfl) T.mg_list bt_list (pa_cons (pv 0) pa_nil)))
      (pss_cons (ps_for PassesOwn.never rfl (pi_seq (pv 1)) (pg_tup rfl (pgs_cons (pg_name (i := 4) sc_gone.nd rfl (Or.inl rfl)) (pgs_cons (pg_name (i := 5) sc_gone.nd rfl (Or.inl rfl)) pgs_nil))) (pss_one (ps_augS (pv 3) (pv 4) get_list (pe_op op_mul (pv 5) (pv 2)) ip_add set_list)))
      (pss_one (ps_ret (pe_callTy call_tuple_of (by rfl) T.mg_tuple bt_tuple (pa_cons (pv 3) pa_nil))))))
abbrev s_led_by : Stmt := topS 39
theorem sc_led_by : FnScope ["many", "arcs", "start", "goals", "flow", "leads", "told", "found", "some", "steps", "often", "node"] ["many", "arcs", "start", "goals", "flow"] (defScope s_led_by) := ⟨rfl, rfl, rfl, by decide +kernel, rfl, by decide +kernel, by decide +kernel⟩
def t_led_by (K : PySem.W.Frag) (C : Addr) (E : XK) : TS :=
    (tSeq (tPar 5 6 (tCons (tCall (sp_leads_of C) [] E0 (tCons (tVar 0) (tCons (tVar 1) tNil))) (tCons (tCB (rTupOf K) (tCons (tVar 4) tNil)) tNil)))
    (tSeq (tAsg (tCall (sp_come_by C) [] E0 (tCons (tVar 5) (tCons (tVar 1) (tCons (tVar 6) (tCons (tVar 2) tNil))))) (gName 7))
    (tSeq (tAsg (tLc (iSeq K (tVar 3)) (gName 11) (tB (tDIn (tVar 11) (tVar 7))) (tVar 11) [11]) (gName 8))
    (tSeq (tWhile (tTest (tOp (rI0 fun i j => .bl (decide (j < i))) (tCB (rLen K) (tCons (tVar 8) tNil)) (tC (.int 0)))) (tSeq (tAsg (tCall (sp_traced C) [] E0 (tCons (tVar 1) (tCons (tVar 7) (tCons (tOp (rIx K) (tVar 8) (tC (.int 0))) tNil)))) (gName 9))
    (tSeq (tAsg (tCall (sp_least_left C) [] E0 (tCons (tVar 1) (tCons (tVar 6) (tCons (tVar 9) tNil)))) (gName 10))
    (tSeq (tIfS (tTest (tOp (fun x y H Q => y = .non ∧ Q (.bl (decide (x = .non))) H) (tVar 10) (tC .non))) (tRet (tC .non)) tNext)
    (tSeq (tAsg (tCall (sp_gone C) [] E0 (tCons (tVar 6) (tCons (tVar 9) (tCons (tVar 10) tNil)))) (gName 6))
    (tSeq (tAsg (tCall (sp_come_by C) [] E0 (tCons (tVar 5) (tCons (tVar 1) (tCons (tVar 6) (tCons (tVar 2) tNil))))) (gName 7))
    (tAsg (tLc (iSeq K (tVar 3)) (gName 11) (tB (tDIn (tVar 11) (tVar 7))) (tVar 11) [11]) (gName 8))))))))
    (tRet (tVar 6))))))
theorem d_led_by (T : Txt K mg) (G_leads_of : FnOk PG w K mg base (L2.CX PG w) 1 T.f_leads_of.f T.f_leads_of.fd ["many", "arcs"] (sp_leads_of T.C)) (G_come_by : FnOk PG w K mg base (L2.CX PG w) 3 T.f_come_by.f T.f_come_by.fd ["leads", "arcs", "load", "start"] (sp_come_by T.C)) (G_traced : FnOk PG w K mg base (L2.CX PG w) 2 T.f_traced.f T.f_traced.fd ["arcs", "found", "node"] (sp_traced T.C)) (G_least_left : FnOk PG w K mg base (L2.CX PG w) 2 T.f_least_left.f T.f_least_left.fd ["arcs", "load", "steps"] (sp_least_left T.C)) (G_gone : FnOk PG w K mg base (L2.CX PG w) 1 T.f_gone.f T.f_gone.fd ["load", "steps", "many"] (sp_gone T.C)) (f : Addr) (cdv : Value) (A : Around) (outer : List Env) (s : Shared) (H : Hp) (E : XK) (hr : Room 3 (A.deeper (envOfC "led_by" (defScope s_led_by) s.heap.objs.size f cdv))) :
    PSs (cxOf (L2.CX PG w) PG w K mg base ["many", "arcs", "start", "goals", "flow", "leads", "told", "found", "some", "steps", "often", "node"] "led_by" (defScope s_led_by) f cdv A outer s H E).nox (defBody s_led_by) (t_led_by K T.C E) :=
    (pss_cons (ps_par (i := 5) (j := 6) rfl sc_led_by.nd rfl rfl (by decide) rfl rfl (pa_cons (pe_call G_leads_of (hr.mono (by decide)) rfl T.f_leads_of.g T.f_leads_of.F.kp T.f_leads_of.b .nil passL (pa_cons (pv 0) (pa_cons (pv 1) pa_nil))) (pa_cons (pe_callTy call_tuple_of (by rfl) T.mg_tuple bt_tuple (pa_cons (pv 4) pa_nil)) pa_nil)) (by rfl))
      (pss_cons (ps_set (i := 7) sc_led_by.nd rfl (Or.inr rfl) (pe_call G_come_by (hr.mono (by decide)) rfl T.f_come_by.g T.f_come_by.F.kp T.f_come_by.b .nil passL (pa_cons (pv 5) (pa_cons (pv 1) (pa_cons (pv 6) (pa_cons (pv 2) pa_nil))))))
      (pss_cons (ps_setLc (i := 8) (own := [("node", 11)]) (g := (gName 11)) (tt := (tB (tDIn (tVar 11) (tVar 7)))) rfl sc_led_by.nd rfl rfl (sw_true rfl rfl rfl (by decide +kernel)) (pi_seq (pv 3)) (blkOk_by (N := ["many", "arcs", "start", "goals", "flow", "leads", "told", "found", "some", "steps", "often", "node"]) (sc := defScope s_led_by) (by decide +kernel)) (fun _ _ _ _ _ => (pg_name (i := 11) sc_led_by.nd rfl (by first | exact Or.inl rfl | exact Or.inr rfl))) (fun _ _ _ _ _ => (pts_one (pt_cmp (pc_din (hu_of hr) (pv 11) (pv 7))))) (fun _ _ _ _ _ => (pv 11)))
      (pss_cons (ps_while PassesOwn.never (pt_cmpR op_gt (pe_callB call_len_seq (by rfl) T.mg_len bt_len (pa_cons (pv 8) pa_nil)) pe_int (nomark _)) (pss_cons (ps_set (i := 9) sc_led_by.nd rfl (Or.inl rfl) (pe_call G_traced (hr.mono (by decide)) rfl T.f_traced.g T.f_traced.F.kp T.f_traced.b .nil passL (pa_cons (pv 1) (pa_cons (pv 7) (pa_cons (pe_ix ix_seq (pv 8) pe_int (fun _ _ => rfl)) pa_nil)))))
      (pss_cons (ps_set (i := 10) sc_led_by.nd rfl (Or.inl rfl) (pe_call G_least_left (hr.mono (by decide)) rfl T.f_least_left.g T.f_least_left.F.kp T.f_least_left.b .nil passL (pa_cons (pv 1) (pa_cons (pv 6) (pa_cons (pv 9) pa_nil)))))
      (pss_cons (ps_if (pt_cmpR op_isN (pv 10) pe_non (nomark _)) (pss_one (ps_ret pe_non)) pss_nil)
      (pss_cons (ps_set (i := 6) sc_led_by.nd rfl (Or.inl rfl) (pe_call G_gone (hr.mono (by decide)) rfl T.f_gone.g T.f_gone.F.kp T.f_gone.b .nil passL (pa_cons (pv 6) (pa_cons (pv 9) (pa_cons (pv 10) pa_nil)))))
      (pss_cons (ps_set (i := 7) sc_led_by.nd rfl (Or.inr rfl) (pe_call G_come_by (hr.mono (by decide)) rfl T.f_come_by.g T.f_come_by.F.kp T.f_come_by.b .nil passL (pa_cons (pv 5) (pa_cons (pv 1) (pa_cons (pv 6) (pa_cons (pv 2) pa_nil))))))
      (pss_one (ps_setLc (i := 8) (own := [("node", 11)]) (g := (gName 11)) (tt := (tB (tDIn (tVar 11) (tVar 7)))) rfl sc_led_by.nd rfl rfl (sw_true rfl rfl rfl (by decide +kernel)) (pi_seq (pv 3)) (blkOk_by (N := ["many", "arcs", "start", "goals", "flow", "leads", "told", "found", "some", "steps", "often", "node"]) (sc := defScope s_led_by) (by decide +kernel)) (fun _ _ _ _ _ => (pg_name (i := 11) sc_led_by.nd rfl (by first | exact Or.inl rfl | exact Or.inr rfl))) (fun _ _ _ _ _ => (pts_one (pt_cmp (pc_din (hu_of hr) (pv 11) (pv 7))))) (fun _ _ _ _ _ => (pv 11))))))))))
      (pss_one (ps_ret (pv 6)))))))
abbrev s_led_on : Stmt := topS 40
theorem sc_led_on : FnScope ["net", "start", "goal", "flow", "many", "arcs"] ["net", "start", "goal", "flow"] (defScope s_led_on) := ⟨rfl, rfl, rfl, by decide +kernel, rfl, by decide +kernel, by decide +kernel⟩
def t_led_on (K : PySem.W.Frag) (C : Addr) (E : XK) : TS :=
    (tSeq (tAsg (tCall (sp_check_net C) [] E (tCons (tVar 0) tNil)) (gTup K 2 (gCons (gName 4) (gCons (gName 5) gNil))))
    (tRet (tCall (sp_led_by C) [] E0 (tCons (tVar 4) (tCons (tVar 5) (tCons (tVar 1) (tCons (tTup (tCons (tVar 2) tNil)) (tCons (tCall (sp_need_fit C) [] E (tCons (tVar 0) (tCons (tVar 1) (tCons (tVar 2) (tCons (tVar 3) tNil))))) tNil))))))))
theorem d_led_on (T : Txt K mg) (G_check_net : FnOk PG w K mg base (L2.CX PG w) 5 T.f_check_net.f T.f_check_net.fd ["value"] (sp_check_net T.C)) (G_need_fit : FnOk PG w K mg base (L2.CX PG w) 7 T.f_need_fit.f T.f_need_fit.fd ["net", "start", "goal", "value"] (sp_need_fit T.C)) (G_led_by : FnOk PG w K mg base (L2.CX PG w) 4 T.f_led_by.f T.f_led_by.fd ["many", "arcs", "start", "goals", "flow"] (sp_led_by T.C)) (f : Addr) (cdv : Value) (A : Around) (outer : List Env) (s : Shared) (H : Hp) (E : XK) (hr : Room 7 (A.deeper (envOfC "led_on" (defScope s_led_on) s.heap.objs.size f cdv))) :
    PSs (cxOf (L2.CX PG w) PG w K mg base ["net", "start", "goal", "flow", "many", "arcs"] "led_on" (defScope s_led_on) f cdv A outer s H E) (defBody s_led_on) (t_led_on K T.C E) :=
    (pss_cons (ps_asg (pe_call G_check_net (hr.mono (by decide)) rfl T.f_check_net.g T.f_check_net.F.kp T.f_check_net.b .nil (passes_call (takes_of rfl rfl rfl rfl) (fun _ _ _ _ h => h)) (pa_cons (pv 0) pa_nil)) (pg_tup rfl (pgs_cons (pg_name (i := 4) sc_led_on.nd rfl (Or.inl rfl)) (pgs_cons (pg_name (i := 5) sc_led_on.nd rfl (Or.inl rfl)) pgs_nil))))
      (pss_one (ps_ret (pe_call G_led_by (hr.mono (by decide)) rfl T.f_led_by.g T.f_led_by.F.kp T.f_led_by.b .nil passL (pa_cons (pv 4) (pa_cons (pv 5) (pa_cons (pv 1) (pa_cons (pe_tup (pa_cons (pv 2) pa_nil)) (pa_cons (pe_call G_need_fit (hr.mono (by decide)) rfl T.f_need_fit.g T.f_need_fit.F.kp T.f_need_fit.b .nil (passes_call (takes_of rfl rfl rfl rfl) (fun _ _ _ _ h => h)) (pa_cons (pv 0) (pa_cons (pv 1) (pa_cons (pv 2) (pa_cons (pv 3) pa_nil))))) pa_nil)))))))))
abbrev s_greatest : Stmt := topS 41
theorem sc_greatest : FnScope ["net", "start", "goal"] ["net", "start", "goal"] (defScope s_greatest) := ⟨rfl, rfl, rfl, by decide +kernel, rfl, by decide +kernel, by decide +kernel⟩
def t_greatest (K : PySem.W.Frag) (C : Addr) (E : XK) : TS :=
    (tRet (tCall (sp_led_on C) [] E (tCons (tVar 0) (tCons (tVar 1) (tCons (tVar 2) (tCons (tCall (sp_no_flow C) [] E (tCons (tVar 0) tNil)) tNil))))))
theorem d_greatest (T : Txt K mg) (G_no_flow : FnOk PG w K mg base (L2.CX PG w) 6 T.f_no_flow.f T.f_no_flow.fd ["net"] (sp_no_flow T.C)) (G_led_on : FnOk PG w K mg base (L2.CX PG w) 8 T.f_led_on.f T.f_led_on.fd ["net", "start", "goal", "flow"] (sp_led_on T.C)) (f : Addr) (cdv : Value) (A : Around) (outer : List Env) (s : Shared) (H : Hp) (E : XK) (hr : Room 8 (A.deeper (envOfC "greatest" (defScope s_greatest) s.heap.objs.size f cdv))) :
    PSs (cxOf (L2.CX PG w) PG w K mg base ["net", "start", "goal"] "greatest" (defScope s_greatest) f cdv A outer s H E) (defBody s_greatest) (t_greatest K T.C E) :=
    (pss_one (ps_ret (pe_call G_led_on (hr.mono (by decide)) rfl T.f_led_on.g T.f_led_on.F.kp T.f_led_on.b .nil (passes_call (takes_of rfl rfl rfl rfl) (fun _ _ _ _ h => h)) (pa_cons (pv 0) (pa_cons (pv 1) (pa_cons (pv 2) (pa_cons (pe_call G_no_flow (hr.mono (by decide)) rfl T.f_no_flow.g T.f_no_flow.F.kp T.f_no_flow.b .nil (passes_call (takes_of rfl rfl rfl rfl) (fun _ _ _ _ h => h)) (pa_cons (pv 0) pa_nil)) pa_nil)))))))
abbrev s_cuts : Stmt := topS 42
theorem sc_cuts : FnScope ["net", "start", "goal", "flow", "late", "node"] ["net", "start", "goal"] (defScope s_cuts) := ⟨rfl, rfl, rfl, by decide +kernel, rfl, by decide +kernel, by decide +kernel⟩
def t_cuts (K : PySem.W.Frag) (C : Addr) (E : XK) : TS :=
    (tSeq (tAsg (tCall (sp_greatest C) [] E (tCons (tVar 0) (tCons (tVar 1) (tCons (tVar 2) tNil)))) (gName 3))
    (tSeq (tIfS (tTest (tOp (fun x y H Q => y = .non ∧ Q (.bl (decide (x = .non))) H) (tVar 3) (tC .non))) (tRet (tC .non)) tNext)
    (tSeq (tAsg (tCall (sp_reaching C) [] E0 (tCons (tVar 0) (tCons (tVar 3) (tCons (tVar 2) tNil)))) (gName 4))
    (tRet (tTup (tCons (tCall (sp_reached C) [] E0 (tCons (tVar 0) (tCons (tVar 3) (tCons (tVar 1) tNil)))) (tCons (tCB (rTupOf K) (tCons (tLc (iRng1 (tCons (tOp (rIx K) (tCall (sp_check_net C) [] E0 (tCons (tVar 0) tNil)) (tC (.int 0))) tNil)) (gName 5) (tTest (tOp (rIn K true) (tVar 5) (tVar 4))) (tVar 5) [5]) tNil)) tNil)))))))
theorem d_cuts (T : Txt K mg) (G_check_net : FnOk PG w K mg base (L2.CX PG w) 5 T.f_check_net.f T.f_check_net.fd ["value"] (sp_check_net T.C)) (G_reached : FnOk PG w K mg base (L2.CX PG w) 6 T.f_reached.f T.f_reached.fd ["net", "flow", "start"] (sp_reached T.C)) (G_reaching : FnOk PG w K mg base (L2.CX PG w) 6 T.f_reaching.f T.f_reaching.fd ["net", "flow", "goal"] (sp_reaching T.C)) (G_greatest : FnOk PG w K mg base (L2.CX PG w) 9 T.f_greatest.f T.f_greatest.fd ["net", "start", "goal"] (sp_greatest T.C)) (f : Addr) (cdv : Value) (A : Around) (outer : List Env) (s : Shared) (H : Hp) (E : XK) (hr : Room 9 (A.deeper (envOfC "cuts" (defScope s_cuts) s.heap.objs.size f cdv))) :
    PSs (cxOf (L2.CX PG w) PG w K mg base ["net", "start", "goal", "flow", "late", "node"] "cuts" (defScope s_cuts) f cdv A outer s H E) (defBody s_cuts) (t_cuts K T.C E) :=
    (pss_cons (ps_set (i := 3) sc_cuts.nd rfl (Or.inl rfl) (pe_call G_greatest (hr.mono (by decide)) rfl T.f_greatest.g T.f_greatest.F.kp T.f_greatest.b .nil (passes_call (takes_of rfl rfl rfl rfl) (fun _ _ _ _ h => h)) (pa_cons (pv 0) (pa_cons (pv 1) (pa_cons (pv 2) pa_nil)))))
      (pss_cons (ps_if (pt_cmpR op_isN (pv 3) pe_non (nomark _)) (pss_one (ps_ret pe_non)) pss_nil)
      (pss_cons (ps_set (i := 4) sc_cuts.nd rfl (Or.inr rfl) (pe_call G_reaching (hr.mono (by decide)) rfl T.f_reaching.g T.f_reaching.F.kp T.f_reaching.b .nil passL (pa_cons (pv 0) (pa_cons (pv 3) (pa_cons (pv 2) pa_nil)))))
      (pss_one (ps_ret (pe_tup (pa_cons (pe_call G_reached (hr.mono (by decide)) rfl T.f_reached.g T.f_reached.F.kp T.f_reached.b .nil passL (pa_cons (pv 0) (pa_cons (pv 3) (pa_cons (pv 1) pa_nil)))) (pa_cons (pe_callTy call_tuple_of (by rfl) T.mg_tuple bt_tuple (pa_cons (pe_lc (own := [("node", 5)]) (g := (gName 5)) (tt := (tTest (tOp (rIn K true) (tVar 5) (tVar 4)))) rfl sc_cuts.nd (pi_range1 rfl T.mg_range (pa_cons (pe_ix ix_seq (pe_call G_check_net (hr.mono (by decide)) rfl T.f_check_net.g T.f_check_net.F.kp T.f_check_net.b .nil passL (pa_cons (pv 0) pa_nil)) pe_int (fun _ _ => rfl)) pa_nil)) (blkOk_by (N := ["net", "start", "goal", "flow", "late", "node"]) (sc := defScope s_cuts) (by decide +kernel)) (fun _ _ _ _ _ => (pg_name (i := 5) sc_cuts.nd rfl (by first | exact Or.inl rfl | exact Or.inr rfl))) (fun _ _ _ _ _ => (pts_one (pt_cmpR op_notIn_seq (pv 5) (pv 4) (by with_unfolding_all rfl)))) (fun _ _ _ _ _ => (pv 5))) pa_nil)) pa_nil))))))))
end
end DL
/-! entry, ways out, further rules over frames -/
namespace DL
open PySem L2
/-! ### entry -/
structure Rai (e : Ent) (E : XK) (C : Addr) (w : V) : Prop where
  go : ∀ δ σ G1 H1 G' H' dx, Sd e δ G1 H1 σ → Go e δ σ G1 H1 G' H' → H1 dx = none → H' dx = some (.xd [("at", w)]) → E (.ref C) (some dx) H'
structure Rtn (e : Ent) (Q : VK) (R : PyData → Prop) : Prop where
  go : ∀ d v G' H' δ σ, R d → Sd e δ G' H' σ → Dg G' v d → Q v H'
section
variable {α : Type} {C : Addr} {enc : α → List PyData} {pre : α → Prop} {bad : α → Option Nat} {R : α → PyData → Prop} {vs : List V} {H : Hp} {Q : VK} {E : XK}
structure Ins (C : Addr) (enc : α → List PyData) (pre : α → Prop) (bad : α → Option Nat) (R : α → PyData → Prop) (vs : List V) (H : Hp) (Q : VK) (E : XK) (N : List Str) (p : α) (G : Hp) (e : Ent) (δ : Fm) : Prop where
  pre : pre p
  S : Sd e δ G H (L2.start N vs)
  rt : bad p = none → Rtn e Q (R p)
  xt : ∀ k w, bad p = some k → vs[k]? = some w → Rai e E C w
  nb : ∀ a, ¬ e.B a
theorem SP.into (h : SP C enc pre bad R vs H Q E) (N : List Str) (hl : vs.length ≤ N.length) : ∃ p G, DgAll G vs (enc p) ∧ Ins C enc pre bad R vs H Q E N p G ⟨G, H, fun _ => False⟩ (frame0 vs (enc p) (N.length - vs.length)) := by
  obtain ⟨G, p, s, dv, hp, hq, hx⟩ := h
  refine ⟨p, G, dv, hp, Sd.begin s dv N hl, fun hb => ⟨fun d v G' H' δ σ r S q => hq hb v d G' H' r S.out q⟩, fun k w hb hw => ⟨fun δ σ G1 H1 G' H' dx S1 g hn hd => ?_⟩, fun _ z => z⟩
  have x := g.s.out
  refine hx k w hb hw dx H' ⟨Ex.rfl', x.h, x.g.tr x.s, fun a q => .inl q⟩ ?_ hd
  have y := S1.out
  cases z : H dx with
  | none => rfl
  | some o => rw [y.h dx o z] at hn; cases hn
theorem SP.in1 (h : SP C enc pre bad R vs H Q E) {a : α → PyData} (he : ∀ p, enc p = [a p]) (N : List Str) (hN : 1 ≤ N.length) : ∃ p v1 G e, vs = [v1] ∧ Dg G v1 (a p) ∧ Ins C enc pre bad R vs H Q E N p G e (.p v1 (a p) :: List.replicate (N.length - 1) .no) := by
  obtain ⟨G0, p0, _, h2, _⟩ := id h
  obtain ⟨p, G, dv, i⟩ := h.into N (by rw [h2.len, he]; exact hN)
  rw [he] at dv i
  cases dv with
  | cons d1 r => cases r; exact ⟨p, _, G, _, rfl, d1, i⟩
theorem SP.in2 (h : SP C enc pre bad R vs H Q E) {a b : α → PyData} (he : ∀ p, enc p = [a p, b p]) (N : List Str) (hN : 2 ≤ N.length) : ∃ p v1 v2 G e, vs = [v1, v2] ∧ Dg G v1 (a p) ∧ Dg G v2 (b p) ∧ Ins C enc pre bad R vs H Q E N p G e (.p v1 (a p) :: .p v2 (b p) :: List.replicate (N.length - 2) .no) := by
  obtain ⟨G0, p0, _, h2, _⟩ := id h
  obtain ⟨p, G, dv, i⟩ := h.into N (by rw [h2.len, he]; exact hN)
  rw [he] at dv i
  cases dv with
  | cons d1 r =>
    cases r with
    | cons d2 r => cases r; exact ⟨p, _, _, G, _, rfl, d1, d2, i⟩
theorem SP.in3 (h : SP C enc pre bad R vs H Q E) {a b c : α → PyData} (he : ∀ p, enc p = [a p, b p, c p]) (N : List Str) (hN : 3 ≤ N.length) : ∃ p v1 v2 v3 G e, vs = [v1, v2, v3] ∧ Dg G v1 (a p) ∧ Dg G v2 (b p) ∧ Dg G v3 (c p) ∧ Ins C enc pre bad R vs H Q E N p G e (.p v1 (a p) :: .p v2 (b p) :: .p v3 (c p) :: List.replicate (N.length - 3) .no) := by
  obtain ⟨G0, p0, _, h2, _⟩ := id h
  obtain ⟨p, G, dv, i⟩ := h.into N (by rw [h2.len, he]; exact hN)
  rw [he] at dv i
  cases dv with
  | cons d1 r =>
    cases r with
    | cons d2 r =>
      cases r with
      | cons d3 r => cases r; exact ⟨p, _, _, _, G, _, rfl, d1, d2, d3, i⟩
theorem SP.in4 (h : SP C enc pre bad R vs H Q E) {a b c d : α → PyData} (he : ∀ p, enc p = [a p, b p, c p, d p]) (N : List Str) (hN : 4 ≤ N.length) : ∃ p v1 v2 v3 v4 G e, vs = [v1, v2, v3, v4] ∧ Dg G v1 (a p) ∧ Dg G v2 (b p) ∧ Dg G v3 (c p) ∧ Dg G v4 (d p) ∧ Ins C enc pre bad R vs H Q E N p G e (.p v1 (a p) :: .p v2 (b p) :: .p v3 (c p) :: .p v4 (d p) :: List.replicate (N.length - 4) .no) := by
  obtain ⟨G0, p0, _, h2, _⟩ := id h
  obtain ⟨p, G, dv, i⟩ := h.into N (by rw [h2.len, he]; exact hN)
  rw [he] at dv i
  cases dv with
  | cons d1 r =>
    cases r with
    | cons d2 r =>
      cases r with
      | cons d3 r =>
        cases r with
        | cons d4 r => cases r; exact ⟨p, _, _, _, _, G, _, rfl, d1, d2, d3, d4, i⟩
theorem SP.in5 (h : SP C enc pre bad R vs H Q E) {a b c d f : α → PyData} (he : ∀ p, enc p = [a p, b p, c p, d p, f p]) (N : List Str) (hN : 5 ≤ N.length) : ∃ p v1 v2 v3 v4 v5 G e, vs = [v1, v2, v3, v4, v5] ∧ Dg G v1 (a p) ∧ Dg G v2 (b p) ∧ Dg G v3 (c p) ∧ Dg G v4 (d p) ∧ Dg G v5 (f p) ∧ Ins C enc pre bad R vs H Q E N p G e (.p v1 (a p) :: .p v2 (b p) :: .p v3 (c p) :: .p v4 (d p) :: .p v5 (f p) :: List.replicate (N.length - 5) .no) := by
  obtain ⟨G0, p0, _, h2, _⟩ := id h
  obtain ⟨p, G, dv, i⟩ := h.into N (by rw [h2.len, he]; exact hN)
  rw [he] at dv i
  cases dv with
  | cons d1 r =>
    cases r with
    | cons d2 r =>
      cases r with
      | cons d3 r =>
        cases r with
        | cons d4 r =>
          cases r with
          | cons d5 r => cases r; exact ⟨p, _, _, _, _, _, G, _, rfl, d1, d2, d3, d4, d5, i⟩
end

section
variable {e : Ent} {δ : Fm} {te ta tb : TE} {tt t u : TT} {R Ra Rb : PyData → Prop} {d da db : PyData} {K : PySem.W.Frag} {D : Ends} {σ : L2.St} {G H : Hp} {t1 t2 : TS} {Q : VK} {E : XK} {C : Addr} {w : V}
/-! ### ways out -/
theorem s_out (S : Sd e δ G H σ) (h : ER e te δ Ra) (r : Rtn e D.rt R) (i : ∀ d, Ra d → R d) : tRet te D σ H := s_ret S h fun d v G' H' rd _ S' q => r.go d v G' H' δ σ (i d rd) S' q
theorem s_raiseR {x : PyData} {i : Nat} (S : Sd e δ G H σ) (hx : δ[i]? = some (.p w x)) (r : Rai e E C w) : tRaiseR C E (tVar i) D σ H := by
  obtain ⟨h1, h2⟩ := S.cells i _ hx
  refine ⟨w, h1, fun dx hd => r.go δ σ G H G _ dx S (S.go (Ext.allocH S.sub hd)) hd upd_same⟩
theorem xr_asg {g : TG} (S : Sd e δ G H σ) (h : XR e te δ C E w) (r : Rai e E C w) : tAsg te g D σ H := h σ G H _ S fun dx G' H' g hn hx => r.go δ σ G H G' H' dx S g hn hx
theorem xr_ret (S : Sd e δ G H σ) (h : XR e te δ C E w) (r : Rai e E C w) : tRet te D σ H := h σ G H _ S fun dx G' H' g hn hx => r.go δ σ G H G' H' dx S g hn hx
theorem xr_drop (S : Sd e δ G H σ) (h : XR e te δ C E w) (r : Rai e E C w) : tDrop te D σ H := h σ G H _ S fun dx G' H' g hn hx => r.go δ σ G H G' H' dx S g hn hx
theorem XR.mono {te' : TE} (S : XR e te δ C E w) (k : ∀ σ H (Q : VK), (∀ Q' : VK, te σ H Q') → te' σ H Q) : XR e te' δ C E w := fun σ G H Q s q => k σ H Q fun Q' => S σ G H Q' s q
theorem xr_op1 {r : R2} (h : XR e ta δ C E w) : XR e (tOp r ta tb) δ C E w := h.mono fun _ _ _ q => q _
theorem xr_after (h : ER e ta δ Ra) (hx : XR e tb δ C E w) {te : TE} (k : ∀ σ H (Q : VK), ta σ H (fun _ H1 => ∀ Q' : VK, tb σ H1 Q') → te σ H Q) : XR e te δ C E w := fun σ G H Q S q => k σ H Q (h σ G H _ S fun d v G1 H1 r g _ Q' => hx σ G1 H1 Q' g.s fun dx G' H' g2 hn hd => q dx G' H' (g.trans g2) (g.back hn) hd)
theorem tOp_mono {r : R2} {H : Hp} (k : ∀ x H1, tb σ H1 (fun y H2 => r x y H2 Q) → tb σ H1 (fun y H2 => r x y H2 Q)) : True := trivial

/-! ### isinstance -/
def tyD : PyData → String
  | .none => "NoneType"
  | .bool _ => "bool"
  | .int _ => "int"
  | .str _ => "str"
  | .list _ => "list"
  | .tuple _ => "tuple"
  | _ => "dict"
theorem dg_ty {v : V} (s : Ex G H) (h : Dg G v d) : TyX K H v (.type (tyD d)) := by
  cases h with
  | non => exact .base .non
  | bl b => exact .base (.bl b)
  | int i => exact .base (.int i)
  | str x => exact .base (.str x)
  | lst f _ => exact .base (.lst (s _ _ f))
  | tup f _ => exact .base (.tup (s _ _ f))
  | dic f _ => exact .base (.dK (s _ _ f))
theorem ed_isT {T : String} {b : Bool} (h : ED e ta δ d) (k : kitB (tyD d) T = some b) : ED e (tCB (rIsi K) (tCons ta (tCons (tC (.ty T)) tNil))) δ (.bool b) := fun σ G H Q S q => h σ G H _ S fun d' v G1 H1 r g dv => by
  subst r
  exact ⟨v, .ty T, .type (tyD d'), .type T, b, rfl, .ty T, dg_ty g.s.sub dv, kit_ty k, q _ _ G1 H1 rfl g (.bl b)⟩
def isBl : PyData → Bool
  | .bool _ => true
  | _ => false
def isIB : PyData → Bool
  | .int _ => true
  | .bool _ => true
  | _ => false
def isTup : PyData → Bool
  | .tuple _ => true
  | _ => false
theorem ed_isInt (h : ED e ta δ d) : ED e (tCB (rIsi K) (tCons ta (tCons (tC (.ty "int")) tNil))) δ (.bool (isIB d)) := ed_isT h (by cases d <;> first | exact (show kitB "int" "int" = some true by decide +kernel) | exact (show kitB "bool" "int" = some true by decide +kernel) | exact (show kitB "NoneType" "int" = some false by decide +kernel) | exact (show kitB "str" "int" = some false by decide +kernel) | exact (show kitB "list" "int" = some false by decide +kernel) | exact (show kitB "tuple" "int" = some false by decide +kernel) | exact (show kitB "dict" "int" = some false by decide +kernel))
theorem ed_isBool (h : ED e ta δ d) : ED e (tCB (rIsi K) (tCons ta (tCons (tC (.ty "bool")) tNil))) δ (.bool (isBl d)) := ed_isT h (by cases d <;> first | exact (show kitB "bool" "bool" = some true by decide +kernel) | exact (show kitB "int" "bool" = some false by decide +kernel) | exact (show kitB "NoneType" "bool" = some false by decide +kernel) | exact (show kitB "str" "bool" = some false by decide +kernel) | exact (show kitB "list" "bool" = some false by decide +kernel) | exact (show kitB "tuple" "bool" = some false by decide +kernel) | exact (show kitB "dict" "bool" = some false by decide +kernel))
theorem ed_isTuple (h : ED e ta δ d) : ED e (tCB (rIsi K) (tCons ta (tCons (tC (.ty "tuple")) tNil))) δ (.bool (isTup d)) := ed_isT h (by cases d <;> first | exact (show kitB "tuple" "tuple" = some true by decide +kernel) | exact (show kitB "int" "tuple" = some false by decide +kernel) | exact (show kitB "NoneType" "tuple" = some false by decide +kernel) | exact (show kitB "str" "tuple" = some false by decide +kernel) | exact (show kitB "list" "tuple" = some false by decide +kernel) | exact (show kitB "bool" "tuple" = some false by decide +kernel) | exact (show kitB "dict" "tuple" = some false by decide +kernel))
theorem ed_isSeq (h : ED e ta δ d) : ED e (tCB (rIsiT K) (tCons ta (tCons (tTup (tCons (tC (.ty "list")) (tCons (tC (.ty "tuple")) tNil))) tNil))) δ (.bool (isSeq d)) := fun σ G H Q S q => h σ G H _ S fun d' v G1 H1 r g dv => by
  subst r
  refine ⟨lenOk (by decide), fun p hp => ?_⟩
  have x := Ext.allocH (o := .tup [.ty "list", .ty "tuple"]) g.s.sub hp
  have key : ∀ T : String, ∀ b1 b2 : Bool, kitB T "list" = some b1 → kitB T "tuple" = some b2 → PySem.W.kitAny K (.type T) [.type "list", .type "tuple"] = some (b1 || b2) := fun T b1 b2 h1 h2 =>
    kitAny_cons (kit_ty h1) (fun z => by
      subst z
      exact kitAny_cons (kit_ty h2) (fun z => by subst z; exact kitAny_nil) fun z => by subst z; rfl) fun z => by subst z; rfl
  refine ⟨v, p, [.ty "list", .ty "tuple"], .type (tyD d'), [.type "list", .type "tuple"], isSeq d', rfl, upd_same, .cons (.ty _) (.cons (.ty _) .nil), dg_ty x.s dv, ?_, q _ _ G1 _ rfl (g.trans (g.s.go x)) (.bl _)⟩
  cases d' <;> first
    | exact key "list" true false (by decide +kernel) (by decide +kernel)
    | exact key "tuple" false true (by decide +kernel) (by decide +kernel)
    | exact key "NoneType" false false (by decide +kernel) (by decide +kernel)
    | exact key "bool" false false (by decide +kernel) (by decide +kernel)
    | exact key "int" false false (by decide +kernel) (by decide +kernel)
    | exact key "str" false false (by decide +kernel) (by decide +kernel)
    | exact key "dict" false false (by decide +kernel) (by decide +kernel)
end
end DL
/-! zip, enumerate, repetition, slices, dicts made, more ways of assignment -/
namespace DL
open PySem L2
section
variable {e : Ent} {δ : Fm} {te ta tb : TE} {tt t u : TT} {R Ra Rb : PyData → Prop} {d da db : PyData} {K : PySem.W.Frag} {D : L2.Ends} {σ : L2.St} {G H : Hp} {t1 t2 : TS} {Q : VK} {E : XK} {C : Addr} {w : V}
def pairD (x y : PyData) : PyData := .tuple [x, y]
def zipD : List PyData → List PyData → List PyData
  | x :: xs, y :: ys => pairD x y :: zipD xs ys
  | _, _ => []
theorem zipD_at : ∀ {xs ys : List PyData} {i : Nat} {d : PyData}, (zipD xs ys)[i]? = some d → ∃ x y, xs[i]? = some x ∧ ys[i]? = some y ∧ d = pairD x y
  | [], ys, i, d, h => by simp [zipD] at h
  | _ :: _, [], i, d, h => by simp [zipD] at h
  | x :: xs, y :: ys, 0, d, h => by simp [zipD] at h; exact ⟨x, y, rfl, rfl, h.symm⟩
  | x :: xs, y :: ys, i + 1, d, h => by
    obtain ⟨x', y', h1, h2, h3⟩ := zipD_at (i := i) (xs := xs) (ys := ys) (by simpa [zipD] using h)
    exact ⟨x', y', by simpa using h1, by simpa using h2, h3⟩
theorem zipD_len : ∀ {xs ys : List PyData}, (zipD xs ys).length = min xs.length ys.length
  | [], ys => by simp [zipD]
  | _ :: _, [] => by simp [zipD]
  | x :: xs, y :: ys => by simp only [zipD, List.length_cons, zipD_len (xs := xs) (ys := ys)]; omega
theorem Dg.pair {T : Addr} {x y : V} {dx dy : PyData} (hT : H T = none) (s : Ex G H) (hx : Dg G x dx) (hy : Dg G y dy) : ∃ G', Ext G H G' (upd H T (.tup [x, y])) ∧ Dg G' (.ref T) (pairD dx dy) := by
  have e := Ext.alloc (o := .tup [x, y]) s hT
  exact ⟨_, e, .tup upd_same (.cons (hx.up e.g) (.cons (hy.up e.g) .nil))⟩
theorem iter_zT {a b : Addr} {xs ys : List V} {ds es : List PyData} (h1 : G a = some (.tup xs)) (q1 : DgAll G xs ds) (h2 : G b = some (.tup ys)) (q2 : DgAll G ys es) : IterD (RZ.ItzT K a b) (zipD ds es) G where
  stop := fun H s => ⟨xs, ys, SqT.of (s _ _ h1), SqT.of (s _ _ h2), by rw [zipD_len, q1.len, q2.len]; omega⟩
  go := fun i d G1 H g s hd => by
    obtain ⟨x, y, e1, e2, rfl⟩ := zipD_at hd
    obtain ⟨v, hv, dv⟩ := q1.get e1
    obtain ⟨u, hu, du⟩ := q2.get e2
    have k1 : SqT K H a xs := SqT.of (s _ _ (g _ _ h1))
    have k2 : SqT K H b ys := SqT.of (s _ _ (g _ _ h2))
    refine ⟨⟨xs, ys, v, u, k1, k2, hv, hu⟩, fun r H' hy => ?_⟩
    obtain ⟨T, x', y', rfl, hT, rfl, f1, f2⟩ := hy
    have z1 := f1 _ k1
    have z2 := f2 _ k2
    rw [hv] at z1; rw [hu] at z2
    cases z1; cases z2
    exact Dg.pair hT s (dv.up g) (du.up g)
theorem iter_zM {a b : Addr} {xs ys : List V} {ds es : List PyData} (h1 : G a = some (.tup xs)) (q1 : DgAll G xs ds) (h2 : G b = some (.lst ys)) (q2 : DgAll G ys es) : IterD (ItzM K a b) (zipD ds es) G where
  stop := fun H s => ⟨xs, ys, SqT.of (s _ _ h1), SqL.of (s _ _ h2), by rw [zipD_len, q1.len, q2.len]; try omega⟩
  go := fun i d G1 H g s hd => by
    obtain ⟨x, y, e1, e2, rfl⟩ := zipD_at hd
    obtain ⟨v, hv, dv⟩ := q1.get e1
    obtain ⟨u, hu, du⟩ := q2.get e2
    have k1 : SqT K H a xs := SqT.of (s _ _ (g _ _ h1))
    have k2 : SqL K H b ys := SqL.of (s _ _ (g _ _ h2))
    refine ⟨⟨xs, ys, v, u, k1, k2, hv, hu⟩, fun r H' hy => ?_⟩
    obtain ⟨T, x', y', rfl, hT, rfl, f1, f2⟩ := hy
    have z1 := f1 _ k1
    have z2 := f2 _ k2
    rw [hv] at z1; rw [hu] at z2
    cases z1; cases z2
    exact Dg.pair hT s (dv.up g) (du.up g)
theorem it_zip {ds es : List PyData} (ha : ED e ta δ (.tuple ds)) (hb : ED e tb δ db) (hs : SeqD db es) : ITD e (iZipS K (tCons ta (tCons tb tNil))) δ (zipD ds es) := fun σ G H R S k => by
  cases hs with
  | t =>
    refine .inl (ha σ G H _ S fun d v G1 H1 r g q => hb σ G1 H1 _ g.s fun d2 v2 G2 H2 r2 g2 q2 => ?_)
    subst r r2
    cases q.up g2.g with
    | tup f1 a1 =>
      cases q2 with
      | tup f2 a2 => exact ⟨_, _, _, _, rfl, .inr ⟨SqT.of (g2.s.sub _ _ f1), SqT.of (g2.s.sub _ _ f2), k _ _ G2 H2 rfl (g.trans g2) (iter_zT f1 a1 f2 a2)⟩⟩
  | l =>
    refine .inr (ha σ G H _ S fun d v G1 H1 r g q => hb σ G1 H1 _ g.s fun d2 v2 G2 H2 r2 g2 q2 => ?_)
    subst r r2
    cases q.up g2.g with
    | tup f1 a1 =>
      cases q2 with
      | lst f2 a2 => exact ⟨_, _, _, _, rfl, SqT.of (g2.s.sub _ _ f1), SqL.of (g2.s.sub _ _ f2), k _ _ G2 H2 rfl (g.trans g2) (iter_zM f1 a1 f2 a2)⟩
def enumD (xs : List PyData) : List PyData := (List.range xs.length).map fun i => pairD (iD i) (xs.getD i .none)
theorem enumD_at {xs : List PyData} {i : Nat} {d : PyData} (h : (enumD xs)[i]? = some d) : ∃ x, xs[i]? = some x ∧ d = pairD (iD i) x := by
  unfold enumD at h
  rw [List.getElem?_map] at h
  by_cases q : i < xs.length
  · rw [List.getElem?_range q] at h
    refine ⟨xs[i], List.getElem?_eq_getElem q, ?_⟩
    have h := Option.some.inj h
    rw [← h]
    show pairD (iD i) (xs.getD i .none) = _
    rw [List.getD_eq_getElem?_getD, List.getElem?_eq_getElem q]; rfl
  · rw [List.getElem?_eq_none (by simpa using q)] at h; cases h
theorem enumD_len (xs : List PyData) : (enumD xs).length = xs.length := by simp [enumD]
theorem it_enum {ds : List PyData} (ha : ED e ta δ (.tuple ds)) : ITD e (iEnumT K (tCons ta tNil)) δ (enumD ds) := fun σ G H R S k => ha σ G H _ S fun d v G1 H1 r g q => by
  subst r
  cases q with
  | @tup a xs _ f q =>
    refine ⟨a, xs, rfl, SqT.of (g.s.sub _ _ f), k _ _ G1 H1 rfl g ⟨fun H s => ⟨xs, SqT.of (s _ _ f), by rw [enumD_len, q.len]⟩, fun i d G2 H2 g2 s hd => ?_⟩⟩
    obtain ⟨x, e1, rfl⟩ := enumD_at hd
    obtain ⟨u, hu, du⟩ := q.get e1
    have k1 : SqT K H2 a xs := SqT.of (s _ _ (g2 _ _ f))
    refine ⟨⟨xs, u, k1, hu⟩, fun r H' hy => ?_⟩
    obtain ⟨T, x', rfl, hT, rfl, f1⟩ := hy
    have z1 := f1 _ k1
    rw [hu] at z1; cases z1
    exact Dg.pair hT s (.int _) (du.up g2)
theorem it_rangeI {ta : TA} {i : Int} (h : EAD e ta δ [.int i]) (hn : i ≤ 1000000) (h0 : 0 ≤ i) : ITD e (iRng1 ta) δ (natsD i.toNat) := it_range1 (n := i.toNat) (by rw [Int.toNat_of_nonneg h0]; exact h) (by omega)

/-! ### statements ahead of others -/
theorem q_if0 {b : Bool} (S : Sd e δ G H σ) (h : EB e t δ b) (h1 : b = true → ∀ G' H', Ex G G' → Sd e δ G' H' σ → t1 { D with nx := t2 D } σ H') (h2 : b = false → ∀ G' H', Ex G G' → Sd e δ G' H' σ → t2 D σ H') : tSeq (tIfS t t1 tNext) t2 D σ H := seq (s_ifB S h h1 h2)
theorem q_if {b : Bool} {t3 : TS} (S : Sd e δ G H σ) (h : EB e t δ b) (h1 : b = true → ∀ G' H', Ex G G' → Sd e δ G' H' σ → t1 { D with nx := t2 D } σ H') (h2 : b = false → ∀ G' H', Ex G G' → Sd e δ G' H' σ → t3 { D with nx := t2 D } σ H') : tSeq (tIfS t t1 t3) t2 D σ H := seq (s_ifB S h h1 h2)
theorem q_asg {i : Nat} (S : Sd e δ G H σ) (h : ER e te δ R) (k : ∀ d v G' H', R d → Ex G G' → Dg G' v d → Sd e (δ.set i (.d d)) G' H' (σ.set i (some v)) → t2 D (σ.set i (some v)) H') : tSeq (tAsg te (gName i)) t2 D σ H := seq (s_asg S h k)
/-- .. of what is known -/
theorem q_set {i : Nat} (S : Sd e δ G H σ) (h : ED e te δ d) (k : ∀ v G' H', Ex G G' → Dg G' v d → Sd e (δ.set i (.d d)) G' H' (σ.set i (some v)) → t2 D (σ.set i (some v)) H') : tSeq (tAsg te (gName i)) t2 D σ H := seq (s_asg S h fun d' v G' H' r g q S' => by subst r; exact k v G' H' g q S')
theorem q_asgG {g : TG} (S : Sd e δ G H σ) (h : ER e te δ R) {δ' : PyData → Fm} {sl : List Nat} (hg : ∀ d, R d → GA e g δ d (δ' d) sl) (k : ∀ d σ' G' H', R d → Ex G G' → Sd e (δ' d) G' H' σ' → t2 D σ' H') : tSeq (tAsg te g) t2 D σ H := seq (s_asgG S h hg k)
theorem q_asgL {i : Nat} {Rl : List PyData → Prop} (S : Sd e δ G H σ) (h : EL e te δ Rl) (k : ∀ xs p G' H', Rl xs → Ex G G' → H p = none → Sd e (δ.set i (.l xs)) G' H' (σ.set i (some (.ref p))) → t2 D (σ.set i (some (.ref p))) H') : tSeq (tAsg te (gName i)) t2 D σ H := seq (s_asgL S h k)
theorem q_par {i j : Nat} {tr : TA} {Rs : List PyData → Prop} (S : Sd e δ G H σ) (h : EA e tr δ Rs) (h2 : ∀ ds, Rs ds → ds.length = 2) (k : ∀ d1 d2 v1 v2 G' H', Rs [d1, d2] → Ex G G' → Sd e ((δ.set i (.d d1)).set j (.d d2)) G' H' ((σ.set i (some v1)).set j (some v2)) → t2 D ((σ.set i (some v1)).set j (some v2)) H') : tSeq (tPar i j tr) t2 D σ H := seq (s_par S h h2 k)
theorem q_drop (S : Sd e δ G H σ) (h : ER e te δ R) (k : ∀ G' H', Ex G G' → Sd e δ G' H' σ → t2 D σ H') : tSeq (tDrop te) t2 D σ H := seq (s_drop S h k)
theorem q_app {xs : List PyData} {i : Nat} (S : Sd e δ G H σ) (hi : δ[i]? = some (.l xs)) (h : ER e te δ R) (hz : xs.length < 1000000) (k : ∀ d G' H', R d → Ex G G' → Sd e (δ.set i (.l (xs ++ [d]))) G' H' σ → t2 D σ H') : tSeq (tDrop (tBM K "list" rAppend (tVar i) (tCons te tNil))) t2 D σ H := seq (s_app S hi h hz k)
theorem q_forD {wi : TI} {g : TG} {tb : TS} {items : List PyData} (S : Sd e δ G H σ) (hit : ITD e wi δ items) (Pv : Nat → Fm → Prop) (p0 : Pv 0 δ)
    (hs : ∀ e1, Sub e1 e → ∀ (i : Nat) d δ1 σ1 G1 H1, items[i]? = some d → Pv i δ1 → Sd e1 δ1 G1 H1 σ1 → ∃ δ2 sl, GA e1 g δ1 d δ2 sl ∧
        ∀ σ2 G2 H2, Sd e1 δ2 G2 H2 σ2 → tb { D with nx := Nx e1 (Pv (i + 1)), ct := Nx e1 (Pv (i + 1)), bk := t2 D } σ2 H2)
    (hd : ∀ δn σn Gn Hn, Pv items.length δn → Ex G Gn → Sd e δn Gn Hn σn → t2 D σn Hn) : tSeq (tFor wi g tb) t2 D σ H := seq (s_forD S hit Pv p0 hs hd)
theorem eb_yes : EB e tYes δ true := fun σ G H Q S k => k true G H rfl (Go.refl S)
theorem el_map {α : Type} {xs : List α} {enc : α → PyData} {f : α → PyData} {δ' : α → Fm} {sl vs : List Nat} {wi : TI} {g : TG} (hit : ITD e wi δ (xs.map enc)) (hsl : ∀ j ∈ sl, j ∈ vs) (h0 : wipeC δ vs = δ)
    (hg : ∀ x ∈ xs, GA e g δ (enc x) (δ' x) sl) (hw : ∀ x ∈ xs, wipeC (δ' x) vs = δ) (he : ∀ x ∈ xs, ED e te (δ' x) (f x)) (hz : xs.length ≤ 1000000) : ELD e (tLc wi g tYes te vs) δ (xs.map f) :=
  EL.is (el_lc (p := fun _ => true) hit hsl h0 hg hw (fun _ _ => eb_yes) (fun x hx _ => he x hx) hz) (by rw [List.filter_eq_self.mpr fun _ _ => rfl])
/-! ### a tuple of one, repeated -/
theorem ed_repZ {x : PyData} {n : Nat} (ha : ED e ta δ (.tuple [x])) (hb : ED e tb δ (iD n)) (hn : n ≤ 1000) : ED e (tOp (rRepZ K) ta tb) δ (.tuple (List.replicate n x)) := fun σ G H Q S k =>
  ha σ G H _ S fun d v G1 H1 r g q => hb σ G1 H1 _ g.s fun d2 v2 G2 H2 r2 g2 q2 => by
    subst r r2
    cases q2
    cases q.up g2.g with
    | @tup a ys _ f q =>
      cases q with
      | @cons v0 _ _ _ q0 q1 =>
        cases q1
        refine ⟨a, n, _, rfl, rfl, SqT.of (g2.s.sub _ _ f), by omega, by omega, fun h1 => ?_, fun _ p hp => ?_⟩
        · have : n = 1 := by omega
          subst this
          exact k _ _ G2 H2 rfl (g.trans g2) (.tup f (.cons q0 .nil))
        · have x := Ext.alloc (o := .tup (List.replicate (n : Int).toNat v0)) g2.s.sub hp
          refine k _ _ _ _ rfl ((g.trans g2).trans (g2.s.go x)) (.tup upd_same ?_)
          rw [Int.toNat_natCast]
          exact DgAll.rep (q0.up x.g) n
/-! ### what is behind the first -/
theorem cut_tail (xs : List V) : cutV xs (some 1) none = xs.drop 1 := by
  unfold cutV
  rw [HT.sIx_none, show HT.sIx xs.length 0 (some 1) = min 1 xs.length from HT.sIx_nat xs.length 0 1]
  cases xs with
  | nil => rfl
  | cons x r => simp
theorem ed_tail {x : PyData} {xs : List PyData} (ha : ED e ta δ (.tuple (x :: xs))) : ED e (tSl (rSlT K) ta (tPart (tC (.int 1))) tNoPart) δ (.tuple xs) := fun σ G H Q S k => ha σ G H _ S fun d v G1 H1 r g q => by
  subst r
  cases q with
  | @tup a ys _ f q =>
    cases q with
    | @cons v vs _ _ q0 q1 =>
      refine ⟨1, rfl, a, v :: vs, rfl, SqT.of (g.s.sub _ _ f), fun z => ?_, fun p hp => ?_⟩
      · have := z.1
        rw [show HT.sIx (v :: vs).length 0 (some 1) = min 1 (v :: vs).length from HT.sIx_nat _ 0 1] at this
        simp at this
      · have x := Ext.alloc (o := .tup (cutV (v :: vs) (some 1) none)) g.s.sub hp
        refine k _ _ _ _ rfl (g.trans (g.s.go x)) (.tup upd_same ?_)
        have z : cutV (v :: vs) (some 1) none = vs := cut_tail _
        have y := q1.up x.g
        generalize upd G1 p (.tup (cutV (v :: vs) (some 1) none)) = G9 at y ⊢
        rw [z]; exact y
end
end DL
namespace DL
open PySem L2
section
variable {K : PySem.W.Frag} {C : Addr} {E E' : XK} {vs : List V} {H : Hp} {Q : VK}
theorem pu_is_integer (h : sp_is_integer C vs H Q E) : t_is_integer K C E' { nx := fun _ H' => Q .non H', rt := Q } (L2.start ["value"] vs) H := by
  obtain ⟨x, v1, G, e, rfl, d1, i⟩ := SP.in1 h (a := fun x => x) (fun _ => rfl) ["value"] (by decide)
  refine s_out i.S (ed_andV (ed_isInt (ed_var rfl)) fun _ => ed_notV (ed_isBool (ed_var rfl))) (i.rt rfl) fun d q => ?_
  subst q; cases x <;> rfl
theorem pu_is_number (h : sp_is_number C vs H Q E) : t_is_number K C E' { nx := fun _ H' => Q .non H', rt := Q } (L2.start ["value"] vs) H := by
  obtain ⟨x, v1, G, e, rfl, d1, i⟩ := SP.in1 h (a := fun x => x) (fun _ => rfl) ["value"] (by decide)
  refine s_out (Ra := fun d => d = .bool (isNum x)) i.S (ER.is (ed_andV (a := isInt x) (b := isNum x) (ed_call x (ea_c (ed_var rfl) ea_nil) trivial rfl fun _ q => q) fun q => ?_) ?_) (i.rt rfl) fun d q => q
  · cases x <;> simp [isInt] at q
    exact ed_ge (ed_var rfl) ed_int
  · cases x <;> rfl
theorem pu_is_below (h : sp_is_below C vs H Q E) : t_is_below K C E' { nx := fun _ H' => Q .non H', rt := Q } (L2.start ["value", "most"] vs) H := by
  obtain ⟨⟨x, m⟩, v1, v2, G, e, rfl, d1, d2, i⟩ := SP.in2 h (fun _ => rfl) ["value", "most"] (by decide)
  refine s_out (Ra := fun d => d = .bool (isBelow x m)) i.S (ER.is (ed_andV (a := isNum x) (b := isBelow x m) (ed_call x (ea_c (ed_var rfl) ea_nil) trivial rfl fun _ q => q) fun q => ?_) ?_) (i.rt rfl) fun d q => q
  · cases x <;> simp [isNum] at q
    refine ER.is (ed_lt (ed_var rfl) (ed_var rfl)) ?_
    simp [isBelow, q]
  · cases x <;> simp [isNum, isBelow]
theorem pu_is_sequence (h : sp_is_sequence C vs H Q E) : t_is_sequence K C E' { nx := fun _ H' => Q .non H', rt := Q } (L2.start ["value"] vs) H := by
  obtain ⟨x, v1, G, e, rfl, d1, i⟩ := SP.in1 h (a := fun x => x) (fun _ => rfl) ["value"] (by decide)
  exact s_out i.S (ed_isSeq (ed_var rfl)) (i.rt rfl) fun d q => q
theorem zip_pairs : ∀ L M : List Nat, zipD (L.map iD) (M.map iD) = (L.zip M).map fun p => pairD (iD p.1) (iD p.2)
  | [], M => by simp [zipD]
  | _ :: _, [] => by simp [zipD]
  | x :: L, y :: M => by simp [zipD, zip_pairs L M]
theorem pu_is_ascending (h : sp_is_ascending C vs H Q E) : t_is_ascending K C E' { nx := fun _ H' => Q .non H', rt := Q } (L2.start ["value", "one", "other"] vs) H := by
  obtain ⟨L, v1, G, e, rfl, d1, i⟩ := SP.in1 h (fun _ => rfl) ["value", "one", "other"] (by decide)
  obtain ⟨h1, h2⟩ := i.pre
  obtain ⟨x, r, rfl⟩ : ∃ x r, L = x :: r := by
    cases L with
    | nil => simp at h1
    | cons y r => exact ⟨y, r, rfl⟩
  have hit := it_is (it_zip (e := e) (K := K) (δ := .p v1 (nodesT (x :: r)) :: List.replicate 2 .no) (ed_var (i := 0) rfl) (ed_tail (K := K) (x := iD x) (xs := r.map iD) (ed_var (i := 0) rfl)) .t) (zip_pairs (x :: r) r)
  refine s_out i.S (ed_all (bs := ((x :: r).zip r).map fun p => decide (p.1 < p.2)) (ER.is (el_ed (el_map (δ' := fun p => ((Cell.p v1 (nodesT (x :: r)) :: List.replicate 2 .no).set 1 (.d (iD p.1))).set 2 (.d (iD p.2))) hit (by simp) rfl (fun p _ => ga_two) (fun _ _ => rfl) (fun p _ => ed_lt (ed_var rfl) (ed_var rfl)) ?_)) ?_)) (i.rt rfl) fun d q => ?_
  · simp at h2 ⊢; omega
  · rw [List.map_map]
    congr 1
    refine List.map_congr_left (fun p _ => ?_)
    show PyData.bool _ = PyData.bool _
    congr 1
    simp
  · rw [q]
    show PyData.bool _ = PyData.bool _
    congr 1
    rw [List.all_map]; rfl
theorem pu_is_lot (h : sp_is_lot C vs H Q E) : t_is_lot K C E' { nx := fun _ H' => Q .non H', rt := Q } (L2.start ["value", "most", "one"] vs) H := by
  obtain ⟨⟨L, n⟩, v1, v2, G, e, rfl, d1, d2, i⟩ := SP.in2 h (fun _ => rfl) ["value", "most", "one"] (by decide)
  obtain ⟨h1, h2⟩ := i.pre
  refine s_out (Ra := fun d => d = .bool (L.all (fun v => decide (v < n)) && ascB L)) i.S (ER.is (ed_andV (a := true) (b := L.all (fun v => decide (v < n)) && ascB L) (ed_call (nodesT L) (ea_c (ed_var rfl) ea_nil) trivial rfl fun _ q => q) fun _ =>
    ed_andV (a := L.all fun v => decide (v < n)) (b := ascB L) ?_ fun _ => ed_call L (ea_c (ed_var rfl) ea_nil) ⟨h1, h2⟩ rfl fun _ q => q) rfl) (i.rt rfl) fun d q => q
  refine ER.is (ed_all (bs := L.map fun v => decide (v < n)) (ER.is (el_ed (el_map (δ' := fun v => (Cell.p v1 (nodesT L) :: Cell.p v2 (iD n) :: List.replicate 1 .no).set 2 (.d (iD v))) (it_seq (ed_var rfl) .t) (by simp) rfl (fun p _ => ga_name) (fun _ _ => rfl) (fun v _ => ed_call (iD v, (n : Int)) (ea_c (ed_var rfl) (ea_c (ed_var rfl) ea_nil)) trivial rfl fun _ q => q) ?_)) ?_)) ?_
  · have h2 : L.length ≤ 2000 := h2
    omega
  · rw [List.map_map]
    congr 1
    refine List.map_congr_left fun v _ => ?_
    simp [isBelow]
  · rw [List.all_map]; rfl
theorem eqv_int (a b : Int) : PyData.eqv (.int a) (.int b) = decide (a = b) := by
  by_cases q : a = b <;> simp [PyData.eqv, q]
theorem seq_len {e : Ent} {δ : Fm} {ta : TE} {x : PyData} {xs : List PyData} (hq : seqOf x = some xs) (h : ED e ta δ x) : ED e (tCB (rLen K) (tCons ta tNil)) δ (.int xs.length) := ed_len rfl h (SeqD.of hq)
theorem pu_is_arc (h : sp_is_arc C vs H Q E) : t_is_arc K C E' { nx := fun _ H' => Q .non H', rt := Q } (L2.start ["many", "value"] vs) H := by
  obtain ⟨⟨n, x⟩, v1, v2, G, e, rfl, d1, d2, i⟩ := SP.in2 h (fun _ => rfl) ["many", "value"] (by decide)
  refine q_if0 (b := !isSeq x || !decide (((seqOf x).getD []).length = 3)) i.S (eb_or (eb_not (eb_B (ed_call x (ea_c (ed_var rfl) ea_nil) trivial rfl fun _ q => q))) fun z => eb_T ?_) (fun z G1 H1 _ S1 => ?_) fun z G1 H1 _ S1 => ?_
  · unfold isSeq at z
    cases hq : seqOf x with
    | none => rw [hq] at z; cases z
    | some xs =>
      refine ER.is (ed_neD (seq_len hq (ed_var rfl)) ed_int rfl rfl) ?_
      rw [eqv_int]
      show PyData.bool (!decide ((xs.length : Int) = 3)) = PyData.bool (!decide (xs.length = 3))
      have : decide ((xs.length : Int) = 3) = decide (xs.length = 3) := by
        rw [decide_eq_decide]; omega
      rw [this]
  · refine s_out S1 ed_bl (i.rt rfl) fun d q => ?_
    rw [q]
    show PyData.bool false = PyData.bool (isArc n x)
    unfold isArc
    unfold isSeq at z
    cases hq : seqOf x with
    | none => rfl
    | some xs =>
      rw [hq] at z
      match xs, z with
      | [], _ => rfl
      | [_], _ => rfl
      | [_, _], _ => rfl
      | [_, _, _], z => simp at z
      | _ :: _ :: _ :: _ :: _, _ => rfl
  · unfold isSeq at z
    cases hq : seqOf x with
    | none => rw [hq] at z; cases z
    | some xs =>
      rw [hq] at z
      match xs, z, hq with
      | [], z, _ => simp at z
      | [_], z, _ => simp at z
      | [_, _], z, _ => simp at z
      | [a, b, c], _, hq =>
        have hs := SeqD.of hq
        refine s_out (Ra := fun d => d = .bool (isBelow a n && (isBelow b n && (isNone c || isNum c)))) S1 (ed_andV (ed_call (a, n) (ea_c (ed_ix (n := 0) (ed_var rfl) ed_int hs rfl) (ea_c (ed_var rfl) ea_nil)) trivial rfl fun _ q => q) fun _ =>
          ed_andV (ed_call (b, n) (ea_c (ed_ix (n := 1) (ed_var rfl) ed_int hs rfl) (ea_c (ed_var rfl) ea_nil)) trivial rfl fun _ q => q) fun _ =>
          ed_orV (ed_isN (ed_ix (n := 2) (ed_var rfl) ed_int hs rfl)) fun _ => ed_call c (ea_c (ed_ix (n := 2) (ed_var rfl) ed_int hs rfl) ea_nil) trivial rfl fun _ q => q) (i.rt rfl) fun d q => ?_
        rw [q]
        show _ = PyData.bool (isArc n x)
        unfold isArc
        rw [hq]
      | _ :: _ :: _ :: _ :: _, z, _ => simp at z
end
end DL
namespace DL
open PySem L2
theorem isSeq_some {x : PyData} (h : isSeq x = true) : ∃ xs, seqOf x = some xs := Option.isSome_iff_exists.mp h
theorem two_of {xs : List PyData} (h : xs.length = 2) : ∃ a b, xs = [a, b] := by
  match xs, h with
  | [a, b], _ => exact ⟨a, b, rfl⟩
theorem isBelow_int {d : PyData} {m : Int} (h : isBelow d m = true) : ∃ i : Int, d = .int i ∧ 0 ≤ i ∧ i < m := by
  cases d <;> simp [isBelow] at h
  exact ⟨_, rfl, h⟩
theorem isNum_int {d : PyData} (h : isNum d = true) : ∃ i : Int, d = .int i ∧ 0 ≤ i := by
  cases d <;> simp [isNum] at h
  exact ⟨_, rfl, h⟩
theorem isArc_of {n : Int} {d : PyData} (h : isArc n d = true) : ∃ a b c, seqOf d = some [a, b, c] ∧ isBelow a n = true ∧ isBelow b n = true ∧ (isNone c || isNum c) = true := by
  unfold isArc at h
  split at h
  · rename_i a b c e
    simp only [Bool.and_eq_true_iff] at h
    exact ⟨a, b, c, e, h.1, h.2.1, h.2.2⟩
  · cases h
/-- an arc's own data -/
theorem isArc_data {n : Int} {d : PyData} (h : isArc n d = true) : ∃ ds, seqOf d = some ds ∧ PyData.tuple ds = arcD (arcOf d) ∧ FM.WfA n.toNat (arcOf d) := by
  obtain ⟨a, b, c, e, h1, h2, h3⟩ := isArc_of h
  obtain ⟨i, rfl, i0, i1⟩ := isBelow_int h1
  obtain ⟨j, rfl, j0, j1⟩ := isBelow_int h2
  have ea : arcOf d = ⟨i.toNat, j.toNat, toO c⟩ := by
    unfold arcOf; rw [e]; rfl
  refine ⟨_, e, ?_, ?_⟩
  · rw [ea]
    unfold arcD
    have e1 : (PyData.int i) = iD i.toNat := by unfold iD; rw [Int.toNat_of_nonneg i0]
    have e2 : (PyData.int j) = iD j.toNat := by unfold iD; rw [Int.toNat_of_nonneg j0]
    have e3 : c = optD (toO c) := by
      cases c <;> simp [isNone, isNum] at h3 <;> rfl
    show PyData.tuple [.int i, .int j, c] = .tuple [iD i.toNat, iD j.toNat, optD (toO c)]
    rw [e1, e2]
    conv => lhs; rw [e3]
  · rw [ea]
    refine ⟨by show i.toNat < n.toNat; omega, by show j.toNat < n.toNat; omega, fun m hm => ?_⟩
    have hm : toO c = some m := hm
    cases c <;> simp [isNone, isNum] at h3 <;> simp [toO] at hm
    subst hm; exact h3
theorem netOf_shape {d : PyData} {n : Nat} {as : List FM.Arc} (h : netOf d = some (n, as)) : ∃ b xs, seqOf d = some [iD n, b] ∧ seqOf b = some xs ∧ 0 < n ∧ n ≤ 2000 ∧ xs.all (isArc n) = true ∧ as = xs.map arcOf := by
  unfold netOf at h
  split at h
  · rename_i a b e
    split at h
    · rename_i xs e2
      split at h
      · rename_i q
        simp only [Bool.and_eq_true] at q
        obtain ⟨q1, q2, q3⟩ := q
        obtain ⟨i, rfl, i0, i1⟩ := isBelow_int q1
        have q2 : (!decide (i = 0)) = true := q2
        have q2 : ¬ i = 0 := by simpa using q2
        obtain ⟨h1, h2⟩ := Prod.mk.inj (Option.some.inj h)
        have h1 : i.toNat = n := h1
        have e3 : PyData.int i = iD n := by unfold iD; rw [← h1, Int.toNat_of_nonneg i0]
        have e4 : (n : Int) = i := by omega
        refine ⟨b, xs, by rw [e, e3], e2, by omega, by omega, ?_, h2.symm⟩
        rw [e4]; exact q3
      · cases h
    · cases h
  · cases h
theorem netOf_ok {d : PyData} {n : Nat} {as : List FM.Arc} (h : netOf d = some (n, as)) (z : NetSz d) : NetOk n as := by
  obtain ⟨b, xs, e1, e2, h0, h1, h2, rfl⟩ := netOf_shape h
  refine ⟨h0, h1, fun a ha => ?_, by rw [List.length_map]; exact z _ _ _ e1 e2⟩
  obtain ⟨x, hx, rfl⟩ := List.mem_map.mp ha
  obtain ⟨_, _, _, w⟩ := isArc_data (List.all_eq_true.mp h2 x hx)
  rwa [Int.toNat_natCast] at w
section
variable {K : PySem.W.Frag} {C : Addr} {E : XK} {vs : List V} {H : Hp} {Q : VK}
theorem decI {a b : Nat} : decide ((a : Int) = (b : Int)) = decide (a = b) := by rw [decide_eq_decide]; omega
theorem pu_check_net (h : sp_check_net C vs H Q E) : t_check_net K C E { nx := fun _ H' => Q .non H', rt := Q } (L2.start ["value", "arc"] vs) H := by
  obtain ⟨x, v1, G, e, rfl, d1, i⟩ := SP.in1 h (a := fun x => x) (fun _ => rfl) ["value", "arc"] (by decide)
  let δ : Fm := Cell.p v1 x :: List.replicate 1 .no
  have bad : netOf x = none → Rai e E C v1 := fun q => i.xt 0 v1 (by unfold badNet; rw [q]; rfl) rfl
  refine q_if0 (b := !isSeq x || (!decide (((seqOf x).getD []).length = 2) || !isSeq (((seqOf x).getD []).getD 1 .none))) i.S (eb_or (eb_not (eb_B (ed_call x (ea_c (ed_var rfl) ea_nil) trivial rfl fun _ q => q))) fun z => eb_or (eb_T ?_) fun z2 => eb_not (eb_B (ed_call (((seqOf x).getD []).getD 1 .none) (ea_c ?_ ea_nil) trivial rfl fun _ q => q))) (fun z G1 H1 _ S1 => s_raiseR S1 rfl (bad ?_)) fun z G1 H1 _ S1 => ?_
  · obtain ⟨xs, hq⟩ := isSeq_some (x := x) (by simpa using z)
    refine ER.is (ed_neD (seq_len hq (ed_var rfl)) ed_int rfl rfl) ?_
    rw [eqv_int, hq]
    exact congrArg PyData.bool (congrArg not (decI (a := xs.length) (b := 2)))
  · obtain ⟨xs, hq⟩ := isSeq_some (x := x) (by simpa using z)
    rw [hq] at z2 ⊢
    obtain ⟨a, b, rfl⟩ := two_of (xs := xs) (by simpa using z2)
    exact ed_ix (n := 1) (ed_var rfl) ed_int (SeqD.of hq) rfl
  · unfold netOf
    split
    · rename_i a b hq
      split
      · rename_i xs hq2
        exfalso
        rw [hq] at z
        simp [isSeq, hq, hq2] at z
      · rfl
    · rfl
  have z : isSeq x = true ∧ ((seqOf x).getD []).length = 2 ∧ isSeq (((seqOf x).getD []).getD 1 .none) = true := by
    cases h1 : isSeq x <;> simp [h1] at z
    exact ⟨rfl, z⟩
  obtain ⟨xs, hq⟩ := isSeq_some z.1
  obtain ⟨_, z2, z3⟩ := z
  rw [hq] at z2 z3
  obtain ⟨a, b, rfl⟩ := two_of (xs := xs) z2
  obtain ⟨ys, hq2⟩ := isSeq_some z3
  have hq2 : seqOf b = some ys := hq2
  have e0 : ∀ {δ' : Fm}, (δ'[0]?).bind cellD = some x → ED e (tOp (rIx K) (tVar 0) (tC (.int 0))) δ' a := fun hc => ed_ix (n := 0) (ed_var hc) ed_int (SeqD.of hq) rfl
  have e1 : ∀ {δ' : Fm}, (δ'[0]?).bind cellD = some x → ED e (tOp (rIx K) (tVar 0) (tC (.int 1))) δ' b := fun hc => ed_ix (n := 1) (ed_var hc) ed_int (SeqD.of hq) rfl
  have nt : netOf x = if isBelow a 2001 && (!decide (toI a = 0) && ys.all (isArc (toI a))) then some ((toI a).toNat, ys.map arcOf) else none := by
    unfold netOf; rw [hq]; simp only; rw [hq2]
  refine q_if0 (b := !isBelow a 2001 || decide (toI a = 0)) S1 (eb_or (eb_not (eb_B (ed_call (a, 2001) (ea_c (e0 rfl) (ea_c (ed_add (i := 2000) (j := 1) ed_int ed_int) ea_nil)) trivial rfl fun _ q => q))) fun z => eb_T ?_) (fun z G1 H1 _ S1 => s_raiseR S1 rfl (bad ?_)) fun z G2 H2 _ S2 => ?_
  · obtain ⟨i, rfl, _⟩ := isBelow_int (d := a) (m := 2001) (by simpa using z)
    exact ER.is (ed_eqD (e0 rfl) ed_int rfl rfl) (by rw [eqv_int]; rfl)
  · rw [nt, if_neg]
    intro q
    simp only [Bool.and_eq_true] at q
    simp [q.1] at z
    simp [z] at q
  have zb : isBelow a 2001 = true ∧ ¬ toI a = 0 := by
    cases h1 : isBelow a 2001 <;> simp [h1] at z
    exact ⟨rfl, z⟩
  obtain ⟨n, rfl, n0, n1⟩ := isBelow_int zb.1
  have z2 : ¬ n = 0 := zb.2
  have sz : ys.length ≤ 1000 := i.pre _ _ _ hq hq2
  refine q_if0 (b := !ys.all (isArc n)) S2 (eb_not (eb_B (ER.is (ed_all (bs := ys.map (isArc n)) (ER.is (el_ed (el_map (xs := ys) (enc := fun y => y) (δ' := fun y => δ.set 1 (.d y)) (it_is (it_seq (e1 rfl) (SeqD.of hq2)) (List.map_id' ys).symm) (by simp) rfl (fun p _ => ga_name) (fun _ _ => rfl) (fun y _ => ed_call (n, y) (ea_c (e0 rfl) (ea_c (ed_var rfl) ea_nil)) trivial rfl fun _ q => q) (by omega))) ?_)) ?_))) (fun z G1 H1 _ S1 => s_raiseR S1 rfl (bad ?_)) fun z G3 H3 _ S3 => ?_
  · rw [List.map_map]; rfl
  · rw [List.all_map]; rfl
  · rw [nt, if_neg]
    intro q
    simp only [Bool.and_eq_true] at q
    have : ys.all (isArc n) = true := q.2.2
    rw [this] at z; cases z
  have za : ys.all (isArc n) = true := by simpa using z
  have nt2 : netOf x = some (n.toNat, ys.map arcOf) := by
    rw [nt, if_pos]
    · rfl
    · have e3 : (!decide (toI (.int n) = 0)) = true := by simp [toI, z2]
      rw [zb.1, e3, show toI (.int n) = n from rfl, za]; rfl
  have el : ∀ y ∈ ys, ∃ ds, seqOf y = some ds ∧ PyData.tuple ds = arcD (arcOf y) ∧ FM.WfA n.toNat (arcOf y) := fun y hy => isArc_data (List.all_eq_true.mp za y hy)
  refine s_out (Ra := fun d => d = netD n.toNat (ys.map arcOf)) S3 (ER.is (ed_tup (ea_c (e0 rfl) (ea_c (ed_tupleOf rfl (el_ed (el_map (xs := ys) (enc := fun y => y) (f := fun y => arcD (arcOf y)) (δ' := fun y => δ.set 1 (.d y)) (it_is (it_seq (e1 rfl) (SeqD.of hq2)) (List.map_id' ys).symm) (by simp) rfl (fun p _ => ga_name) (fun _ _ => rfl) (fun y hy => ?_) (by omega))) .l) ea_nil)) (show 2 ≤ 1000000 by decide)) ?_) (i.rt (by unfold badNet; rw [nt2]; rfl)) fun d q => ⟨_, _, nt2, q⟩
  · obtain ⟨ds, h1, h2, _⟩ := el y hy
    exact ER.is (ed_tupleOf rfl (ed_var rfl) (SeqD.of h1)) h2
  · show PyData.tuple [.int n, .tuple (ys.map fun y => arcD (arcOf y))] = netD n.toNat (ys.map arcOf)
    unfold netD arcsD iD
    rw [Int.toNat_of_nonneg n0, List.map_map]; rfl
end
end DL
/-! dicts made at once; pairs of assignments with new lists and dicts -/
namespace DL
open PySem L2
section
variable {e : Ent} {δ : Fm} {te ta tb tk tv : TE} {tt t u : TT} {R Ra Rb : PyData → Prop} {d da db : PyData} {K : PySem.W.Frag} {D : L2.Ends} {σ : L2.St} {G H : Hp} {t1 t2 : TS} {Q : VK} {E : XK} {C : Addr} {w : V}
theorem Go.up {G' H' G1 H1 : Hp} (g : Go e δ σ G H G1 H1) (x : Ext G1 H1 G' H') : Go e δ σ G H G' H' := g.trans (g.s.go x)
/-- a dict told as it ends -/
def dkD {α : Type} (kf : α → Int) (f : α → PyData) (xs : List α) : List (PyData × PyData) := xs.map fun x => (.int (kf x), f x)
theorem look_dkD {α : Type} {kf : α → Int} {f : α → PyData} {i : Int} : ∀ {xs : List α}, lookI (dkD kf f xs) i = (xs.find? fun x => decide (kf x = i)).map f
  | [] => rfl
  | x :: xs => by
    have ih := look_dkD (kf := kf) (f := f) (i := i) (xs := xs)
    show (if kf x = i then some (f x) else lookI (dkD kf f xs) i) = _
    rw [List.find?_cons, ih]
    by_cases q : kf x = i <;> simp [q]
theorem ed_dc {α : Type} {xs : List α} {enc : α → PyData} {kf : α → Int} {f : α → PyData} {δ' : α → Fm} {sl vs : List Nat} {wi : TI} {g : TG} (hit : ITD e wi δ (xs.map enc)) (hsl : ∀ j ∈ sl, j ∈ vs) (h0 : wipeC δ vs = δ)
    (hg : ∀ x ∈ xs, GA e g δ (enc x) (δ' x) sl) (hw : ∀ x ∈ xs, wipeC (δ' x) vs = δ) (hk : ∀ x ∈ xs, ED e tk (δ' x) (.int (kf x))) (he : ∀ x ∈ xs, ED e tv (δ' x) (f x)) (hz : xs.length ≤ 1000000) (nd : (xs.map kf).Nodup) :
    ED e (tDc wi g tYes tk tv vs) δ (.dict (dkD kf f xs)) := fun σ G H Q S k => hit σ G H _ S fun items J G1 H1 r g1 it => by
  subst r
  intro D hD
  let done (i : Nat) : List (PyData × PyData) := dkD kf f (xs.take i)
  have nD0 : Nob e δ σ G1 (upd H1 D (.dK [])) D (.dK []) := Nob.new g1.s hD
  have gD0 : Go e δ σ G1 H1 G1 (upd H1 D (.dK [])) := g1.s.go (Ext.allocH g1.s.sub hD)
  let P : Nat → Hp → Prop := fun i H' => ∃ G' acc, Ex G1 G' ∧ Kp δ σ H1 H' ∧ (∀ a, G' a ≠ none → G1 a ≠ none ∨ H1 a = none) ∧ Sd e δ G' H' (L2.wipe σ vs) ∧ Nob e δ (L2.wipe σ vs) G' H' D (.dK acc) ∧ DgKv G' acc (done i)
  have ow : ∀ {j : Nat} {c : Cell} {a : Addr}, δ[j]? = some c → (Own (L2.wipe σ vs)[j]? a c ↔ Own σ[j]? a c) := fun {j c a} h => by
    by_cases z : j ∈ vs
    · rw [← h0] at h
      rcases wipeC_at h with ⟨_, b⟩ | ⟨b, _⟩
      · subst b; exact Iff.rfl
      · exact absurd z b
    · rw [wipe_at z]
  refine ⟨fun i m H' => m = xs.length - i ∧ i ≤ xs.length ∧ P i H', ⟨xs.length, by omega, Nat.zero_le _, G1, [], gD0.g, gD0.k, gD0.n, ?_, ⟨nD0.at_, nD0.eh, nD0.gn, fun j c h w => nD0.no j c h ((ow h).mp w)⟩, .nil⟩, fun i m H' hP => ?_⟩
  · have := gD0.s.wipe vs
    rw [h0] at this; exact this
  obtain ⟨rfl, hi, G', acc, q1, q2, q3, q4, q5, q6⟩ := hP
  by_cases hlt : i < xs.length
  · have hx : xs[i]? = .some xs[i] := List.getElem?_eq_getElem hlt
    have hm : xs[i] ∈ xs := List.getElem_mem hlt
    have hd : (xs.map enc)[i]? = some (enc xs[i]) := by rw [List.getElem?_map, hx]; rfl
    obtain ⟨j1, j2⟩ := it.go i (enc xs[i]) G' H' q1 q4.sub hd
    have dn : done (i + 1) = done i ++ [(.int (kf xs[i]), f xs[i])] := by
      show (xs.take (i + 1)).map _ = (xs.take i).map _ ++ _
      rw [List.take_add_one, hx, List.map_append]; rfl
    refine .inr ⟨j1, P (i + 1), fun H2 p2 => ⟨xs.length - (i + 1), by omega, rfl, hlt, p2⟩, fun v H2 y => ?_⟩
    obtain ⟨G2, x2, d2⟩ := j2 v H2 y
    have w2 := q4.go x2
    have n2 := q5.go w2
    refine hg xs[i] hm _ G2 H2 v _ w2.s d2 fun σ2 S2 ww oo => ⟨?_, ?_⟩
    · rw [ww vs hsl]
      exact wipe_idem σ vs
    · show tk σ2 H2 _
      have nob2 : ∀ {G3 H3 : Hp} {o : HO}, Nob e δ (L2.wipe σ vs) G3 H3 D o → Nob e (δ' xs[i]) σ2 G3 H3 D o := fun n => ⟨n.at_, n.eh, n.gn, fun j c h w => by
        obtain ⟨a1, a2⟩ := oo j c D h w
        exact n.no j c a1 a2⟩
      have back : ∀ {G3 H3 : Hp}, Sd e (δ' xs[i]) G3 H3 σ2 → Sd e δ G3 H3 (L2.wipe σ vs) := fun {G3 H3} S3 => by
        have z := S3.wipe vs
        rw [hw _ hm, ww vs hsl, wipe_idem] at z
        exact z
      have kp2 : ∀ {H3 H4 : Hp}, Kp (δ' xs[i]) σ2 H3 H4 → Kp δ σ H3 H4 := fun {H3 H4} kk a o ha nb => kk a o ha fun j b hj hs => by
        obtain ⟨a1, a2⟩ := oo j (.b b) a hj hs
        exact nb j b a1 ((ow a1).mp a2)
      have kp0 : Kp δ σ H1 H2 := fun a o ha nb => x2.h a o (q2 a o ha nb)
      have out : ∀ {a : Addr} {G3 H3 : Hp}, Sd e δ G3 H3 (L2.wipe σ vs) → Kp δ σ H1 H3 → H3 a = none → H1 a = none := fun {a G3 H3} S3 kk z => by
        cases hh : H1 a with
        | none => rfl
        | some o =>
          exfalso
          by_cases nb : ∀ (i : Nat) (b : Addr), δ[i]? = some (.b b) → σ[i]? ≠ some (some (.ref a))
          · rw [kk a o hh nb] at z; cases z
          · exact nb fun i b hi hs => S3.no z i (.b b) hi ((ow hi).mpr hs)
      have n0 : ∀ a, G2 a ≠ none → G1 a ≠ none ∨ H1 a = none := fun a ha => by
        rcases x2.n a ha with z | z
        · exact q3 a z
        · exact .inr (out q4 q2 z)
      refine hk _ hm σ2 G2 H2 _ S2 fun dd y G3 H3 rd g3 dg => he _ hm σ2 G3 H3 _ g3.s fun d3 z G4 H4 rd4 g4 dg4 => ?_
      subst rd rd4
      cases dg
      have g34 := g3.trans g4
      have n4 := (nob2 n2).go g34
      have S4 := back g4.s
      have n4' : Nob e δ (L2.wipe σ vs) G4 H4 D (.dK acc) := n2.tellOther n4.at_ n4.gn
      have q6' := DgKv.up (x2.g.tr g34.g) q6
      have lk := look_kv (i := kf xs[i]) q6'
      have nk : lookI (done i) (kf xs[i]) = none := by
        show lookI (dkD kf f (xs.take i)) _ = none
        rw [look_dkD, Option.map_eq_none_iff, List.find?_eq_none]
        intro y hy
        simp only [decide_eq_true_eq]
        intro hyk
        obtain ⟨j, hj⟩ := List.getElem?_of_mem hy
        have hj1 : j < i := by have := (List.getElem?_eq_some_iff.mp hj).1; simp at this; omega
        have hj2 : xs[j]? = some y := by rw [List.getElem?_take_of_lt hj1] at hj; exact hj
        have e1 : (xs.map kf)[j]? = some (kf xs[i]) := by rw [List.getElem?_map, hj2]; exact congrArg some hyk
        have e2 : (xs.map kf)[i]? = some (kf xs[i]) := by rw [List.getElem?_map, hx]; rfl
        have := (List.getElem?_inj (by simpa using Nat.lt_trans hj1 hlt) nd).mp (e1.trans e2.symm)
        omega
      rw [nk] at lk
      refine ⟨acc, .inl (kf xs[i]), rfl, n4.at_, ?_, G4, acc ++ [(.inl (kf xs[i]), z)], q1.tr (x2.g.tr g34.g), fun a o ha nb => ?_, fun a ha => ?_, ?_, ?_, ?_⟩
      · have := q6.len
        have l2 : (done i).length ≤ i := by
          show ((xs.take i).map _).length ≤ _
          rw [List.length_map, List.length_take]; omega
        exact lenLt (by omega)
      · have : a ≠ D := fun z => by subst z; rw [hD] at ha; cases ha
        rw [upd_ne this]
        exact kp2 g34.k a o (kp0 a o ha nb) nb
      · rcases g34.n a ha with z | z
        · exact n0 a z
        · exact .inr (out w2.s kp0 z)
      · exact S4.updN n4'
      · have e1 : putK acc (.inl (kf xs[i])) z = acc ++ [(.inl (kf xs[i]), z)] := put_new lk
        rw [e1]
        exact n4'.upd
      · rw [dn]
        exact (DgKv.up g4.g (DgKv.up (x2.g.tr g3.g) q6)).snoc dg4
  · have e1 : i = xs.length := by omega
    subst e1
    refine .inl ⟨by have := it.stop H' (q1.tr q4.sub); rw [List.length_map] at this; exact this, ?_⟩
    have dl : done xs.length = dkD kf f xs := by show dkD kf f (xs.take xs.length) = _; rw [List.take_length]
    rw [dl] at q6
    have S' := q4.unwipe h0
    have gg : Go e δ σ G1 H1 G' H' := ⟨q1, q2, q3, S'⟩
    have nb : Nob e δ σ G' H' D (.dK acc) := ⟨q5.at_, q5.eh, q5.gn, fun j c h w => q5.no j c h ((ow h).mpr w)⟩
    exact k _ (.ref D) (upd G' D (.dK acc)) H' rfl ((g1.trans gg).tell nb (g1.back hD)) (.dic upd_same (DgKv.up (Ex.updN q5.gn) q6))
theorem ed_lenD {kvs : List (PyData × PyData)} (h : ED e ta δ (.dict kvs)) : ED e (tCB rLenD (tCons ta tNil)) δ (.int kvs.length) := er_cb (ea_c h ea_nil) fun _ q G H vs Q s hv k => by
  subst q
  cases hv with
  | cons h1 h2 =>
    cases h2
    cases h1 with
    | dic f q => exact ⟨_, _, rfl, s _ _ f, k _ _ rfl (by rw [q.len]; exact .int _)⟩

/-! ### a new list and a value at once -/
theorem q_parL {i j : Nat} {xs : List PyData} (S : Sd e δ G H σ) (h : ELD e ta δ xs) (h2 : ED e tb δ d) (hij : i ≠ j) (k : ∀ σ' G' H', Ex G G' → Sd e ((δ.set i (.l xs)).set j (.d d)) G' H' σ' → t2 D σ' H') : tSeq (tPar i j (tCons ta (tCons tb tNil))) t2 D σ H :=
  h σ G H _ S fun xs' p ys G1 H1 r g n hp a => h2 σ G1 H1 _ g.s fun d' v G2 H2 r2 g2 q2 => by
    subst r r2
    exact ⟨_, _, rfl, k _ G2 H2 (g.g.tr g2.g) ((g2.s.setL (n.go g2) (a.up g2.g)).setD q2)⟩
/-- a dict of one, a list of one, and 0 -/
theorem q_come {i j l m : Nat} {x : PyData} (S : Sd e δ G H σ) (hm : (δ[m]?).bind cellD = some (.int n)) (hij : i ≠ j) (k : ∀ σ' G' H', Ex G G' → Sd e (((δ.set i (.m [(.int n, .none)])).set j (.l [.int n])).set l (.d (.int 0))) G' H' σ' → t2 D σ' H') :
    tSeq (tPar3 i j l (tCons (tDisp [((tVar m), (tC .non))]) (tCons (tLst (tCons (tVar m) tNil)) (tCons (tC (.int 0)) tNil)))) t2 D σ H := by
  obtain ⟨v, h1, h2⟩ := S.var hm
  cases h2
  intro p hp
  have x1 := Ext.allocH (o := .dK []) S.sub hp
  refine ⟨_, h1, upd_same, [(.inl n, .non)], rfl, (show 1 ≤ 15 by decide), _, h1, lenOk (show 1 ≤ 1000000 by decide), fun q hq => ⟨_, _, _, rfl, ?_⟩⟩
  have e1 : upd (upd H p (.dK [])) p (.dK (mergeK [] [(.inl n, .non)])) = upd H p (.dK [(.inl n, .non)]) := by
    funext a
    by_cases z : a = p
    · subst z; rw [upd_same, upd_same]; rfl
    · rw [upd_ne z, upd_ne z, upd_ne z]
  rw [e1] at hq ⊢
  have g1 := S.go (Ext.allocH (o := .dK [(.inl n, .non)]) S.sub hp)
  have n1 := Nob.new (o := .dK [(.inl n, .non)]) S hp
  have g2 := g1.s.go (Ext.allocH (o := .lst [.int n]) g1.s.sub hq)
  have n2 := Nob.new (o := .lst [.int n]) g1.s hq
  have n1' := n1.go g2
  have pq : q ≠ p := fun z => by subst z; rw [upd_same] at hq; cases hq
  have S1 := g2.s.setM (i := i) n1' (.cons .non .nil)
  have n2' : Nob e (δ.set i (.m [(.int n, .none)])) (σ.set i (some (.ref p))) G _ q (.lst [.int n]) := ⟨n2.at_, n2.eh, n2.gn, fun a c hc ow => by
    by_cases z : i = a
    · subst z
      have hl : i < δ.length := by simpa using (List.getElem?_eq_some_iff.mp hc).1
      rw [List.getElem?_set_self hl] at hc
      cases hc
      rw [List.getElem?_set_self (by rw [S.len]; exact hl)] at ow
      exact pq (V.ref.inj (Option.some.inj (Option.some.inj ow))).symm
    · rw [List.getElem?_set_ne z] at hc ow
      exact n2.no a c hc ow⟩
  exact k _ G _ Ex.rfl' ((S1.setL (i := j) n2' (.cons (.int n) .nil)).setD (.int 0))
end
end DL
namespace DL
open PySem L2
theorem nd_below {n : Nat} {d : PyData} : isBelow d n = (ndOf n d).isSome := by
  cases d <;> simp [isBelow, ndOf]
  rename_i i
  by_cases q : 0 ≤ i ∧ i < n
  · rw [if_pos q]; simp [q]
  · rw [if_neg q]
    have : (decide (0 ≤ i) && decide (i < (n : Int))) = false := by
      by_cases q1 : 0 ≤ i
      · by_cases q2 : i < n
        · exact absurd ⟨q1, q2⟩ q
        · simp [q2]
      · simp [q1]
    simpa using this
theorem nd_some {n a : Nat} {d : PyData} (h : ndOf n d = some a) : d = iD a ∧ a < n := by
  cases d <;> simp [ndOf] at h
  obtain ⟨⟨h1, h2⟩, h3⟩ := h
  unfold iD
  refine ⟨by rw [← h3, Int.toNat_of_nonneg h1], by omega⟩
theorem nd_of {n a : Nat} (h : a < n) : ndOf n (iD a) = some a := by
  show (if 0 ≤ (a : Int) ∧ (a : Int) < n then some (a : Int).toNat else none) = _
  rw [if_pos ⟨by omega, by omega⟩]; rfl
theorem netOf_netD {n : Nat} {as : List FM.Arc} (h : NetOk n as) : netOf (netD n as) = some (n, as) := by
  have key : ∀ a ∈ as, isArc n (arcD a) = true ∧ arcOf (arcD a) = a := fun a ha => by
    obtain ⟨h1, h2, h3⟩ := h.wf a ha
    refine ⟨?_, ?_⟩
    · show (isBelow (iD a.tl) n && (isBelow (iD a.hd) n && (isNone (optD a.mo) || isNum (optD a.mo)))) = true
      rw [nd_below, nd_below, nd_of h1, nd_of h2]
      cases q : a.mo with
      | none => rfl
      | some m => simp [optD, isNone, isNum, h3 m q]
    · show (⟨(a.tl : Int).toNat, (a.hd : Int).toNat, toO (optD a.mo)⟩ : FM.Arc) = a
      cases a with
      | mk t k m => cases m <;> rfl
  have e1 : (as.map arcD).all (isArc n) = true := by
    rw [List.all_map, List.all_eq_true]
    exact fun a ha => (key a ha).1
  have e2 : (as.map arcD).map arcOf = as := by
    rw [List.map_map]
    conv => rhs; rw [← List.map_id as]
    exact List.map_congr_left fun a ha => (key a ha).2
  show (if isBelow (iD n) 2001 && (!decide ((n : Int) = 0) && (as.map arcD).all (isArc n)) then some ((n : Int).toNat, (as.map arcD).map arcOf) else none) = _
  have h0 := h.n0
  have h1 := h.n1
  rw [if_pos, e2]
  · rfl
  · have b1 : isBelow (iD n) 2001 = true := by simp [isBelow]; omega
    have b2 : (!decide ((n : Int) = 0)) = true := by simp; omega
    rw [b1, b2, e1]; rfl
theorem NetOk.sz' {n : Nat} {as : List FM.Arc} (h : NetOk n as) : NetSz (netD n as) := fun a b xs e1 e2 => by
  have e1 : [iD n, arcsD as] = [a, b] := Option.some.inj e1
  cases e1
  have e2 : as.map arcD = xs := Option.some.inj e2
  rw [← e2, List.length_map]; exact h.sz
section
variable {K : PySem.W.Frag} {C : Addr} {E : XK} {vs : List V} {H : Hp} {Q : VK}
theorem pu_need_node (h : sp_need_node C vs H Q E) : t_need_node K C E { nx := fun _ H' => Q .non H', rt := Q } (L2.start ["many", "value"] vs) H := by
  obtain ⟨⟨n, x⟩, v1, v2, G, e, rfl, d1, d2, i⟩ := SP.in2 h (fun _ => rfl) ["many", "value"] (by decide)
  refine q_if0 (b := !isBelow x n) i.S (eb_not (eb_B (ed_call (x, (n : Int)) (ea_c (ed_var rfl) (ea_c (ed_var rfl) ea_nil)) trivial rfl fun _ q => q))) (fun z G1 H1 _ S1 => s_raiseR S1 rfl (i.xt 1 v2 ?_ rfl)) fun z G1 H1 _ S1 => ?_
  · rw [nd_below] at z
    show badNode n x = some 1
    unfold badNode
    cases q : ndOf n x with
    | none => rfl
    | some a => rw [q] at z; cases z
  · rw [nd_below] at z
    refine s_out S1 (ed_var rfl) (i.rt ?_) fun d q => q
    show badNode n x = none
    unfold badNode
    cases q : ndOf n x with
    | none => rw [q] at z; cases z
    | some a => rfl
theorem pu_need_pair (h : sp_need_pair C vs H Q E) : t_need_pair K C E { nx := fun _ H' => Q .non H', rt := Q } (L2.start ["many", "start", "goal"] vs) H := by
  obtain ⟨⟨n, s, g⟩, v1, v2, v3, G, e, rfl, d1, d2, d3, i⟩ := SP.in3 h (fun _ => rfl) ["many", "start", "goal"] (by decide)
  have hb : badPr n s g = (match ndOf n s with
    | none => some 1
    | some a => match ndOf n g with
      | none => some 2
      | some b => if b = a then some 2 else none) := rfl
  cases hs : ndOf n s with
  | none =>
    rw [hs] at hb
    exact xr_drop i.S (xr_call (n, s) (eax_next (ed_var rfl) (eax_here rfl ea_nil)) trivial (by show badNode n s = some 1; unfold badNode; rw [hs]; rfl)) (i.xt 1 v2 hb rfl)
  | some a =>
    rw [hs] at hb
    obtain ⟨es, la⟩ := nd_some hs
    refine q_drop (R := fun _ => True) i.S (ed_call (n, s) (ea_c (ed_var rfl) (ea_c (ed_var rfl) ea_nil)) trivial (by show badNode n s = none; unfold badNode; rw [hs]; rfl) fun _ _ => trivial) fun G1 H1 _ S1 => ?_
    refine q_if0 (b := !isBelow g n || decide (ndOf n g = some a)) S1 (eb_or (eb_not (eb_B (ed_call (g, (n : Int)) (ea_c (ed_var rfl) (ea_c (ed_var rfl) ea_nil)) trivial rfl fun _ q => q))) fun z => eb_T ?_) (fun z G1 H1 _ S1 => s_raiseR S1 rfl (i.xt 2 v3 ?_ rfl)) fun z G1 H1 _ S1 => ?_
    · rw [nd_below] at z
      cases hg : ndOf n g with
      | none => rw [hg] at z; cases z
      | some b =>
        obtain ⟨eg, lb⟩ := nd_some hg
        subst es eg
        refine ER.is (ed_eqD (ed_var rfl) (ed_var rfl) rfl rfl) ?_
        show PyData.bool (PyData.eqv (.int b) (.int a)) = _
        rw [eqv_int, decI]
        simp
    · show badPr n s g = some 2
      rw [hb]
      cases hg : ndOf n g with
      | none => rfl
      | some b =>
        rw [nd_below, hg] at z
        simp at z
        simp [z]
    · refine s_out S1 (ed_var rfl) (i.rt ?_) fun d q => q
      show badPr n s g = none
      rw [hb]
      cases hg : ndOf n g with
      | none => rw [nd_below, hg] at z; cases z
      | some b =>
        rw [nd_below, hg] at z
        simp at z
        simp [z]
theorem eqv_iD (a b : Nat) : PyData.eqv (iD a) (iD b) = decide (a = b) := by
  show PyData.eqv (.int a) (.int b) = _
  rw [eqv_int, decI]
theorem pu_need_ends (h : sp_need_ends C vs H Q E) : t_need_ends K C E { nx := fun _ H' => Q .non H', rt := Q } (L2.start ["many", "start", "ends", "node"] vs) H := by
  obtain ⟨⟨n, s, b, es⟩, v1, v2, v3, G, e, rfl, d1, d2, d3, i⟩ := SP.in3 h (fun _ => rfl) ["many", "start", "ends", "node"] (by decide)
  obtain ⟨hs, he, nd, sz⟩ := i.pre
  have sz : es.length ≤ 1000 := sz
  have he : ∀ x ∈ es, x < n ∧ x ≠ s := he
  refine q_drop (R := fun _ => True) i.S (ed_call (n, iD s) (ea_c (ed_var rfl) (ea_c (ed_var rfl) ea_nil)) trivial (by show badNode n (iD s) = none; unfold badNode; rw [nd_of hs]; rfl) fun _ _ => trivial) fun G1 H1 _ S1 => ?_
  let δ : Fm := Cell.p v1 (iD n) :: Cell.p v2 (iD s) :: Cell.p v3 (sqD b (es.map iD)) :: List.replicate 1 .no
  have S1 : Sd e δ G1 H1 _ := S1
  refine q_if0 (b := false) S1 (ET.is (eb_or (eb_not (eb_B (ed_call (sqD b (es.map iD)) (ea_c (ed_var rfl) ea_nil) trivial rfl fun _ q => q))) fun z => eb_not (eb_B (b := true) (ER.is (ed_all (bs := es.map fun _ => true) (ER.is (el_ed (el_map (xs := es) (enc := iD) (f := fun _ => .bool true) (δ' := fun y => δ.set 3 (.d (iD y))) (it_seq (ed_var rfl) (sqD_seq b _)) (by simp) rfl (fun p _ => ga_name) (fun _ _ => rfl) (fun y hy => ER.is (ed_andV (a := true) (b := true) (ed_call (iD y, (n : Int)) (ea_c (ed_var rfl) (ea_c (ed_var rfl) ea_nil)) trivial rfl fun _ q => q.trans ?_) fun _ => ER.is (ed_neD (ed_var rfl) (ed_var rfl) rfl rfl) ?_) rfl) (by omega))) ?_)) ?_))) ?_) (fun z => nomatch z) fun z G2 H2 _ S2 => ?_
  · show PyData.bool (isBelow (iD y) n) = _
    rw [nd_below, nd_of (he y hy).1]; rfl
  · rw [eqv_iD]; simp [(he y hy).2]
  · rw [List.map_map]; rfl
  · rw [List.all_map]; simp
  · show (!isSeq (sqD b (es.map iD)) || !true) = false
    unfold isSeq
    rw [seqOf_sqD]; rfl
  refine q_if0 (b := false) S2 (eb_T (ER.is (ed_neD (ed_lenD (ed_dc (xs := es) (enc := iD) (kf := fun y => (y : Int)) (f := fun _ => .bool true) (δ' := fun y => δ.set 3 (.d (iD y))) (it_seq (ed_var rfl) (sqD_seq b _)) (by simp) rfl (fun p _ => ga_name) (fun _ _ => rfl) (fun y _ => ed_var rfl) (fun y _ => ed_bl) (by omega) ?_)) (ed_len rfl (ed_var rfl) (sqD_seq b _)) rfl rfl) ?_)) (fun z => nomatch z) fun z G3 H3 _ S3 => ?_
  · have nd : es.Pairwise (· ≠ ·) := nd
    exact List.pairwise_map.mpr (nd.imp fun h z => h (by omega))
  · rw [eqv_int]; simp [dkD]
  exact s_out S3 (ed_tupleOf rfl (ed_var rfl) (sqD_seq b _)) (i.rt rfl) fun d q => q
end
end DL
namespace DL
open PySem L2
/-! ### loads -/
theorem loadOf_some {v : PyData} {l : List Int} (h : loadOf v = some l) : seqOf v = some (l.map PyData.int) ∧ ∀ x ∈ l, 0 ≤ x := by
  unfold loadOf at h
  split at h
  · rename_i xs e
    split at h
    · rename_i q
      have h := Option.some.inj h
      subst h
      rw [List.all_eq_true] at q
      refine ⟨?_, fun x hx => ?_⟩
      · rw [e, List.map_map]
        congr 1
        conv => lhs; rw [← List.map_id xs]
        refine List.map_congr_left fun y hy => ?_
        obtain ⟨i, rfl, _⟩ := isNum_int (q y hy)
        rfl
      · obtain ⟨y, hy, rfl⟩ := List.mem_map.mp hx
        obtain ⟨i, rfl, h0⟩ := isNum_int (q y hy)
        exact h0
    · cases h
  · cases h
theorem loadOf_of {v : PyData} {l : List Int} (h : seqOf v = some (l.map PyData.int)) (h0 : ∀ x ∈ l, 0 ≤ x) : loadOf v = some l := by
  unfold loadOf
  rw [h]
  have e1 : (l.map PyData.int).all isNum = true := by
    rw [List.all_map, List.all_eq_true]
    intro x hx
    simpa [isNum] using h0 x hx
  simp only
  rw [if_pos e1, List.map_map]
  congr 1
  conv =>
    rhs
    rw [← List.map_id l]
  rfl
theorem borne_of {as : List FM.Arc} {l : List Int} (h0 : ∀ x ∈ l, 0 ≤ x) (hl : l.length = as.length) (hb : (as.zip l).all bear1 = true) : FM.Borne as l := by
  induction as generalizing l with
  | nil => cases l with
    | nil => exact .nil
    | cons x l => simp at hl
  | cons a as ih => cases l with
    | nil => simp at hl
    | cons x l =>
      rw [List.zip_cons_cons, List.all_cons, Bool.and_eq_true] at hb
      refine .cons (h0 x (by simp)) (fun m hm => ?_) (ih (fun y hy => h0 y (by simp [hy])) (by simpa using hl) hb.2)
      have := hb.1
      unfold bear1 at this
      simp only [hm] at this
      exact of_decide_eq_true this
theorem of_borne {as : List FM.Arc} {l : List Int} (h : FM.Borne as l) : (∀ x ∈ l, 0 ≤ x) ∧ l.length = as.length ∧ (as.zip l).all bear1 = true := by
  induction h with
  | nil => simp
  | @cons a x as l h1 h2 _ ih =>
    obtain ⟨i1, i2, i3⟩ := ih
    refine ⟨fun y hy => ?_, by simp [i2], ?_⟩
    · rcases List.mem_cons.mp hy with q | q
      · rw [q]; exact h1
      · exact i1 y q
    · rw [List.zip_cons_cons, List.all_cons, i3, Bool.and_true]
      unfold bear1
      cases q : a.mo with
      | none => rfl
      | some m => simpa using h2 m q
theorem isLoad_iff {as : List FM.Arc} {v : PyData} : isLoad as v = true ↔ ∃ l, loadOf v = some l ∧ FM.Borne as l := by
  unfold isLoad
  constructor
  · intro h
    split at h
    · rename_i l e
      simp only [decide_eq_true_eq, Bool.and_eq_true] at h
      exact ⟨l, e, borne_of (loadOf_some e).2 h.1 h.2⟩
    · cases h
  · rintro ⟨l, e, b⟩
    obtain ⟨_, h2, h3⟩ := of_borne b
    rw [e]
    simp [h2, h3]
theorem loadOf_ints {b : Bool} {l : List Int} (h : ∀ x ∈ l, 0 ≤ x) : loadOf (sqD b (l.map PyData.int)) = some l := loadOf_of (seqOf_sqD b _) h
theorem isLoad_ints {as : List FM.Arc} {b : Bool} {l : List Int} (h : FM.Borne as l) : isLoad as (sqD b (l.map PyData.int)) = true := isLoad_iff.mpr ⟨l, loadOf_ints (of_borne h).1, h⟩
theorem VSz.ints {b : Bool} {l : List Int} (h : l.length ≤ 2000) : VSz (sqD b (l.map PyData.int)) := fun xs e => by
  rw [seqOf_sqD] at e
  cases e
  rw [List.length_map]; exact h
theorem zip_load : ∀ (as : List FM.Arc) (l : List Int), zipD (as.map arcD) (l.map PyData.int) = (as.zip l).map fun p => pairD (arcD p.1) (.int p.2)
  | [], l => by simp [zipD]
  | _ :: _, [] => by simp [zipD]
  | a :: as, x :: l => by simp [zipD, zip_load as l]
section
variable {e : Ent} {δ : Fm} {te ta tb : TE} {t1 t2 : TS} {d : PyData} {K : PySem.W.Frag} {D : L2.Ends} {σ : L2.St} {G H : Hp} {E : XK} {C : Addr} {w : V} {Ra : PyData → Prop}
/-! ### further ways out, further statements -/
theorem xr_op2 {r : R2} (h : ER e ta δ Ra) (hx : XR e tb δ C E w) : XR e (tOp r ta tb) δ C E w := fun σ G H Q S q => h σ G H _ S fun d v G1 H1 r1 g1 _ => hx σ G1 H1 _ g1.s fun dx G' H' g2 hn hd => q dx G' H' (g1.trans g2) (g1.back hn) hd
theorem xr_cb1 {r : List V → Hp → VK → Prop} (hx : XR e ta δ C E w) : XR e (tCB r (tCons ta tNil)) δ C E w := fun σ G H Q S q => hx σ G H _ S q
theorem xr_nif (S : Sd e δ G H σ) (h : XR e te δ C E w) (r : Rai e E C w) : tSeq (tIfS (tNot (tB te)) t1 tNext) t2 D σ H := h σ G H _ S fun dx G' H' g hn hx => r.go δ σ G H G' H' dx S g hn hx
theorem xq_asg {g : TG} (S : Sd e δ G H σ) (h : XR e te δ C E w) (r : Rai e E C w) : tSeq (tAsg te g) t2 D σ H := xr_asg (D := { D with nx := t2 D }) S h r
theorem xq_drop (S : Sd e δ G H σ) (h : XR e te δ C E w) (r : Rai e E C w) : tSeq (tDrop te) t2 D σ H := xr_drop (D := { D with nx := t2 D }) S h r
theorem q_augL {xs : List PyData} {i n : Nat} {x y : Int} {f : Int → Int → Int} (S : Sd e δ G H σ) (hi : δ[i]? = some (.l xs)) (hb : ED e tb δ (.int (n : Int))) (hx : xs[n]? = some (.int x)) (h : ED e te δ (.int y)) (k : ∀ G' H', Ex G G' → Sd e (δ.set i (.l (xs.set n (.int (f x y))))) G' H' σ → t2 D σ H') :
    tSeq (tAugS (tVar i) tb te (rIxL K) (ipI f) rSetL) t2 D σ H := seq (s_augL S hi hb hx h k)
theorem q_net {i j : Nat} {x : PyData} {n : Nat} {as : List FM.Arc} (S : Sd e δ G H σ) (hd : (δ[0]?).bind cellD = some x) (hn : netOf x = some (n, as)) (hz : NetSz x)
    (k : ∀ σ' G' H', Ex G G' → Sd e ((δ.set i (.d (iD n))).set j (.d (arcsD as))) G' H' σ' → t2 D σ' H') : tSeq (tAsg (tCall (sp_check_net C) [] E (tCons (tVar 0) tNil)) (gTup K 2 (gCons (gName i) (gCons (gName j) gNil)))) t2 D σ H :=
  q_asgG (R := fun d => d = netD n as) (δ' := fun _ => (δ.set i (.d (iD n))).set j (.d (arcsD as))) S (ed_call x (ea_c (ed_var hd) ea_nil) hz (by unfold badNet; rw [hn]; rfl) fun d ⟨n', as', e1, e2⟩ => by
    rw [hn] at e1; cases e1; exact e2) (fun d q => by rw [q]; exact ga_two) fun d σ' G' H' _ g S' => k σ' G' H' g S'
theorem xq_net {i j : Nat} {v : V} {x : PyData} (S : Sd e δ G H σ) (hd : δ[0]? = some (.p v x)) (hn : netOf x = none) (hz : NetSz x) (r : Rai e E C v) : tSeq (tAsg (tCall (sp_check_net C) [] E (tCons (tVar 0) tNil)) (gTup K 2 (gCons (gName i) (gCons (gName j) gNil)))) t2 D σ H :=
  xq_asg S (xr_call x (eax_here hd ea_nil) hz (by unfold badNet; rw [hn]; rfl)) r
theorem el_rep {x : PyData} {n : Nat} (ha : ELD e ta δ [x]) (hb : ED e tb δ (iD n)) (hn : n ≤ 1000000) : ELD e (tOp rRep ta tb) δ (List.replicate n x) := fun σ G H Q S k =>
  ha σ G H _ S fun xs p ys G1 H1 r g n1 hp a => hb σ G1 H1 _ g.s fun d v G2 H2 r2 g2 q2 => by
    subst r r2
    cases q2
    cases a with
    | @cons v0 _ _ _ a0 a1 =>
      cases a1
      refine ⟨p, n, [v0], rfl, rfl, (n1.go g2).at_, by omega, by omega, lenOk (by simp; omega), fun q hq => ?_⟩
      have x := Ext.allocH (o := .lst (List.replicate (n : Int).toNat [v0]).flatten) g2.s.sub hq
      refine k _ q _ G2 _ rfl ((g.trans g2).trans (g2.s.go x)) (Nob.new g2.s hq) ((g.trans g2).back hq) ?_
      rw [Int.toNat_natCast, List.flatten_replicate_singleton]
      exact DgAll.rep (a0.up g2.g) n
end
/-! ### sums at the nodes -/
theorem sur_snoc {a : FM.Arc} {x : Int} {v : Nat} : ∀ {as : List FM.Arc} {l : List Int}, l.length = as.length → FM.sur (as ++ [a]) (l ++ [x]) v = FM.sur as l v + (FM.one (a.hd == v) x - FM.one (a.tl == v) x)
  | [], [], _ => by simp [FM.sur]
  | [], _ :: _, h => absurd h (by simp)
  | _ :: _, [], h => absurd h (by simp)
  | b :: as, y :: l, h => by
    have ih := sur_snoc (a := a) (x := x) (v := v) (as := as) (l := l) (by simpa using h)
    simp only [List.cons_append, FM.sur, ih]; omega
theorem set_range {n k : Nat} {f : Nat → PyData} {y : PyData} (hk : k < n) : ((List.range n).map f).set k y = (List.range n).map fun v => if v = k then y else f v := by
  refine List.ext_getElem? fun i => ?_
  rw [List.getElem?_set, List.getElem?_map, List.getElem?_map]
  by_cases hi : i < n
  · rw [List.getElem?_range hi]
    by_cases q : k = i
    · subst q; simp [hi]
    · simp [q, Ne.symm q]
  · rw [List.getElem?_eq_none (by simpa using hi)]
    by_cases q : k = i
    · omega
    · simp [q]
theorem get_range {n k : Nat} {f : Nat → PyData} (hk : k < n) : ((List.range n).map f)[k]? = some (f k) := by
  rw [List.getElem?_map, List.getElem?_range hk]; rfl
section
variable {K : PySem.W.Frag} {C : Addr} {E : XK} {vs : List V} {H : Hp} {Q : VK}
theorem pu_are_borne (h : sp_are_borne C vs H Q E) : t_are_borne K C E { nx := fun _ H' => Q .non H', rt := Q } (L2.start ["arcs", "value", "one", "arc"] vs) H := by
  obtain ⟨⟨as, x⟩, v1, v2, G, e, rfl, d1, d2, i⟩ := SP.in2 h (fun _ => rfl) ["arcs", "value", "one", "arc"] (by decide)
  obtain ⟨sa, sx⟩ := i.pre
  have sa : as.length ≤ 1000 := sa
  have sx : VSz x := sx
  let δ : Fm := Cell.p v1 (arcsD as) :: Cell.p v2 x :: List.replicate 2 .no
  have en : ∀ xs, seqOf x = some xs → ED e (tCB (rAll K) (tCons (tLc (iSeq K (tVar 1)) (gName 2) tYes (tCall (sp_is_number C) [] E0 (tCons (tVar 2) tNil)) [2]) tNil)) δ (.bool (xs.all isNum)) := fun xs hq => by
    refine ER.is (ed_all (bs := xs.map isNum) (ER.is (el_ed (el_map (xs := xs) (enc := fun y => y) (f := fun y => .bool (isNum y)) (δ' := fun y => δ.set 2 (.d y)) (it_is (it_seq (ed_var rfl) (SeqD.of hq)) (List.map_id' xs).symm) (by simp) rfl (fun p _ => ga_name) (fun _ _ => rfl) (fun y hy => ed_call y (ea_c (ed_var rfl) ea_nil) trivial rfl fun _ q => q) (by have := sx xs hq; omega))) ?_)) ?_
    · rw [List.map_map]; rfl
    · rw [List.all_map]; rfl
  have xs0 : ∀ xs, seqOf x = some xs → (seqOf x).getD [] = xs := fun xs h => by rw [h]; rfl
  refine q_if0 (b := !isSeq x || (!decide (((seqOf x).getD []).length = as.length) || !((seqOf x).getD []).all isNum)) i.S (eb_or (eb_not (eb_B (ed_call x (ea_c (ed_var rfl) ea_nil) trivial rfl fun _ q => q))) fun z => eb_or (eb_T ?_) fun _ => eb_not (eb_B ?_)) (fun z G1 H1 _ S1 => ?_) fun z G1 H1 _ S1 => ?_
  · obtain ⟨xs, hq⟩ := isSeq_some (x := x) (by simpa using z)
    rw [xs0 xs hq]
    refine ER.is (ed_neD (seq_len hq (ed_var rfl)) (ed_len rfl (ed_var rfl) .t) rfl rfl) ?_
    rw [eqv_int, List.length_map, decI]
  · obtain ⟨xs, hq⟩ := isSeq_some (x := x) (by simpa using z)
    rw [xs0 xs hq]
    exact en xs hq
  · refine s_out S1 ed_bl (i.rt rfl) fun d q => ?_
    rw [q]
    show PyData.bool false = PyData.bool (isLoad as x)
    unfold isLoad loadOf
    unfold isSeq at z
    cases hq : seqOf x with
    | none => rfl
    | some xs =>
      rw [hq] at z
      simp only [Option.isSome_some, Bool.not_true, Bool.false_or, Option.getD_some] at z ⊢
      by_cases h1 : xs.all isNum = true
      · rw [if_pos h1]
        simp only [h1, Bool.not_true, Bool.or_false] at z
        simp only [List.length_map]
        have : decide (xs.length = as.length) = false := by simpa using z
        rw [this, Bool.false_and]
      · rw [if_neg h1]
  · have z : isSeq x = true ∧ ((seqOf x).getD []).length = as.length ∧ ((seqOf x).getD []).all isNum = true := by
      cases h1 : isSeq x <;> simp [h1] at z
      refine ⟨rfl, z.1, ?_⟩
      rw [List.all_eq_true]; exact z.2
    obtain ⟨xs, hq⟩ := isSeq_some z.1
    obtain ⟨_, z2, z3⟩ := z
    rw [xs0 xs hq] at z2 z3
    have hl : loadOf x = some (xs.map toI) := by unfold loadOf; rw [hq]; simp only; rw [if_pos z3]
    obtain ⟨k1, k2⟩ := loadOf_some hl
    have L2' : (xs.map toI).length = as.length := by rw [List.length_map, z2]
    generalize xs.map toI = l at hl k1 k2 L2'
    refine s_out (Ra := fun d => d = .bool ((as.zip l).all bear1)) S1 (ER.is (ed_all (bs := (as.zip l).map bear1) (ER.is (el_ed (el_map (xs := as.zip l) (enc := fun p => pairD (arcD p.1) (.int p.2)) (f := fun p => .bool (bear1 p)) (δ' := fun p => (δ.set 3 (.d (arcD p.1))).set 2 (.d (.int p.2))) (it_is (it_zip (ed_var rfl) (ed_var rfl) (SeqD.of k1)) (zip_load as l)) (by simp) rfl (fun p _ => ga_two) (fun _ _ => rfl) (fun p _ => ?_) ?_)) ?_)) ?_) (i.rt rfl) fun d q => ?_
    · refine ER.is (ed_orV (a := isNone (optD p.1.mo)) (b := bear1 p) (ed_isN (ed_ix (n := 2) (ed_var rfl) ed_int .t rfl)) fun hn => ?_) ?_
      · cases hm : p.1.mo with
        | none => rw [hm] at hn; cases hn
        | some m =>
          refine ER.is (ed_le (ed_var rfl) (ed_ix (n := 2) (d := .int m) (ed_var rfl) ed_int .t ?_)) ?_
          · show some (optD p.1.mo) = _
            rw [hm]; rfl
          · unfold bear1; rw [hm]
      · unfold bear1
        cases hm : p.1.mo with
        | none => rfl
        | some m => rfl
    · rw [List.length_zip]; omega
    · rw [List.map_map]; rfl
    · rw [List.all_map]; rfl
    · rw [q]
      show _ = PyData.bool (isLoad as x)
      unfold isLoad
      rw [hl]
      simp [L2']
theorem pu_need_load (h : sp_need_load C vs H Q E) : t_need_load K C E { nx := fun _ H' => Q .non H', rt := Q } (L2.start ["arcs", "value"] vs) H := by
  obtain ⟨⟨_, as, b, l⟩, v1, v2, G, e, rfl, d1, d2, i⟩ := SP.in2 h (fun _ => rfl) ["arcs", "value"] (by decide)
  obtain ⟨sa, hb⟩ := i.pre
  have sa : as.length ≤ 1000 := sa
  have hb : FM.Borne as l := hb
  have hl := hb.len
  refine q_if0 (b := false) i.S (eb_not (a := true) (eb_B (ed_call (as, sqD b (l.map PyData.int)) (ea_c (ed_var rfl) (ea_c (ed_var rfl) ea_nil)) ⟨sa, .ints (by omega)⟩ rfl fun d q => ?_))) (fun z => nomatch z) fun _ G1 H1 _ S1 => s_out S1 (ed_tupleOf rfl (ed_var rfl) (sqD_seq b _)) (i.rt rfl) fun d q => q
  rw [show isLoad as (sqD b (l.map PyData.int)) = true from isLoad_ints hb] at q
  exact q
theorem pu_surplus (h : sp_surplus C vs H Q E) : t_surplus K C E { nx := fun _ H' => Q .non H', rt := Q } (L2.start ["many", "arcs", "load", "found", "arc", "one"] vs) H := by
  obtain ⟨⟨n, as, b, l⟩, v1, v2, v3, G, e, rfl, d1, d2, d3, i⟩ := SP.in3 h (fun _ => rfl) ["many", "arcs", "load", "found", "arc", "one"] (by decide)
  obtain ⟨ok, hl⟩ := i.pre
  have ok : NetOk n as := ok
  have hl : l.length = as.length := hl
  have hn := ok.n1
  let f (j : Nat) (v : Nat) : PyData := .int (FM.sur (as.take j) (l.take j) v)
  let F (j : Nat) (c4 c5 : Cell) : Fm := [Cell.p v1 (iD n), Cell.p v2 (arcsD as), Cell.p v3 (sqD b (l.map PyData.int)), .l ((List.range n).map (f j)), c4, c5]
  refine q_asgL i.S (el_rep (el_lst (ea_c ed_int ea_nil) fun _ q => by rw [q]; decide) (ed_var rfl) (show n ≤ 1000000 by omega)) fun xs p G1 H1 r _ _ S1 => ?_
  subst r
  have e0 : List.replicate n (PyData.int 0) = (List.range n).map (f 0) := by
    refine List.ext_getElem? (fun j => ?_)
    rw [List.getElem?_replicate, List.getElem?_map]
    by_cases q : j < n
    · rw [if_pos q, List.getElem?_range q]
      show _ = some (PyData.int (FM.sur (as.take 0) (l.take 0) j))
      simp [FM.sur]
    · rw [if_neg q, List.getElem?_eq_none (by simpa using q)]; rfl
  rw [e0] at S1
  have hz : (as.zip l).length = as.length := by rw [List.length_zip]; omega
  refine q_forD (items := (as.zip l).map fun p => pairD (arcD p.1) (.int p.2)) S1 (it_is (it_zip (ed_var rfl) (ed_var rfl) (sqD_seq b _)) (zip_load as l)) (fun j δ => ∃ c4 c5, δ = F j c4 c5) ⟨.no, .no, rfl⟩ (fun e1 sb j d δ1 σ1 G2 H2 hd hP S2 => ?_) fun δn σn Gn Hn hP _ S2 => ?_
  · obtain ⟨c4, c5, rfl⟩ := hP
    rw [List.getElem?_map] at hd
    obtain ⟨⟨a, x⟩, hz1, rfl⟩ := Option.map_eq_some_iff.mp hd
    rw [List.getElem?_zip_eq_some] at hz1
    obtain ⟨ha, hx⟩ := hz1
    have hj := (List.getElem?_eq_some_iff.mp ha).1
    obtain ⟨w1, w2, _⟩ := ok.wf a (List.mem_of_getElem? ha)
    refine ⟨_, _, ga_two, fun σ2 G3 H3 S3 => ?_⟩
    have S3 : Sd e1 (F j (.d (arcD a)) (.d (.int x))) G3 H3 σ2 := S3
    refine q_augL (x := FM.sur (as.take j) (l.take j) a.tl) (y := x) S3 rfl (ed_ix (n := 0) (d := iD a.tl) (ed_var rfl) ed_int .t rfl) (get_range w1) (ed_var rfl) fun G4 H4 _ S4 => ?_
    rw [set_range w1] at S4
    refine s_augL (x := if a.hd = a.tl then FM.sur (as.take j) (l.take j) a.tl - x else FM.sur (as.take j) (l.take j) a.hd) (y := x) S4 rfl (ed_ix (n := 1) (d := iD a.hd) (ed_var rfl) ed_int .t rfl) ?_ (ed_var rfl) fun G5 H5 _ S5 => ?_
    · rw [get_range w2]
      by_cases q : a.hd = a.tl
      · rw [if_pos q, if_pos q]
      · rw [if_neg q, if_neg q]
    · rw [set_range w2] at S5
      refine ⟨_, G5, ⟨.d (arcD a), .d (.int x), ?_⟩, S5⟩
      have key : ((List.range n).map fun v => if v = a.hd then PyData.int ((if a.hd = a.tl then FM.sur (as.take j) (l.take j) a.tl - x else FM.sur (as.take j) (l.take j) a.hd) + x) else if v = a.tl then PyData.int (FM.sur (as.take j) (l.take j) a.tl - x) else f j v) = (List.range n).map (f (j + 1)) := by
        refine List.map_congr_left fun v _ => ?_
        show _ = PyData.int (FM.sur (as.take (j + 1)) (l.take (j + 1)) v)
        rw [List.take_add_one, List.take_add_one, ha, hx]
        show _ = PyData.int (FM.sur (as.take j ++ [a]) (l.take j ++ [x]) v)
        rw [sur_snoc (by simp; omega)]
        by_cases q1 : v = a.hd
        · subst q1
          by_cases q2 : a.hd = a.tl
          · simp [q2, FM.one]
          · have q3 : ¬ a.tl = a.hd := fun z => q2 z.symm
            simp [q2, q3, FM.one]
        · have q1' : ¬ a.hd = v := fun z => q1 z.symm
          rw [if_neg q1]
          by_cases q2 : v = a.tl
          · subst q2
            simp [q1', FM.one]; omega
          · have q3 : ¬ a.tl = v := fun z => q2 z.symm
            simp [q1', q2, q3, FM.one, f]
      exact congrArg (fun X => [Cell.p v1 (iD n), Cell.p v2 (arcsD as), Cell.p v3 (sqD b (l.map PyData.int)), Cell.l X, .d (arcD a), .d (.int x)]) key
  · obtain ⟨c4, c5, rfl⟩ := hP
    refine s_out S2 (ed_tupO rfl rfl) (i.rt rfl) fun d q => ?_
    rw [q]
    show PyData.tuple _ = PyData.tuple _
    congr 1
    refine List.map_congr_left fun v _ => ?_
    show PyData.int (FM.sur (as.take _) (l.take _) v) = _
    rw [List.length_map, hz, List.take_length, List.take_of_length_le (by omega)]
end
end DL
namespace DL
open PySem L2
theorem isFit_iff {n s t : Nat} {as : List FM.Arc} {v : PyData} : isFit n as s t v = true ↔ ∃ l, loadOf v = some l ∧ FM.Flow n as s t l := by
  unfold isFit
  rw [Bool.and_eq_true, isLoad_iff, List.all_eq_true]
  constructor
  · rintro ⟨⟨l, e, b⟩, h⟩
    refine ⟨l, e, b, fun u hu h1 h2 => ?_⟩
    have := h u (List.mem_range.mpr hu)
    rw [e] at this
    simpa [h1, h2] using this
  · rintro ⟨l, e, b, h⟩
    refine ⟨⟨l, e, b⟩, fun u hu => ?_⟩
    rw [e]
    have hu := List.mem_range.mp hu
    by_cases h1 : u = s
    · simp [h1]
    · by_cases h2 : u = t
      · simp [h2]
      · simp [h u hu h1 h2]
theorem badFit_eq (d s g v : PyData) : badFit d s g v = (match badPair d s g with
    | some k => some k
    | none => match netOf d with
      | none => none
      | some (n, as) => match ndOf n s, ndOf n g with
        | some a, some b => if isFit n as a b v then none else some 3
        | _, _ => none) := by
  unfold badFit badPair badPr
  cases h1 : netOf d with
  | none => rfl
  | some p =>
    obtain ⟨n, as⟩ := p
    cases h2 : ndOf n s with
    | none => simp [h2]
    | some a =>
      cases h3 : ndOf n g with
      | none => simp [h2, h3]
      | some b =>
        by_cases h4 : b = a
        · simp [h2, h3, h4]
        · simp [h2, h3, h4]
theorem badPair_none {d s g : PyData} (h : badPair d s g = none) : ∃ n as a b, netOf d = some (n, as) ∧ ndOf n s = some a ∧ ndOf n g = some b ∧ b ≠ a ∧ badPr n s g = none := by
  unfold badPair at h
  cases h1 : netOf d with
  | none => (rw [h1] at h; cases h)
  | some p =>
    obtain ⟨n, as⟩ := p
    rw [h1] at h
    have h : badPr n s g = none := h
    have h' := h
    unfold badPr at h
    cases h2 : ndOf n s with
    | none => rw [h2] at h; cases h
    | some a =>
      rw [h2] at h
      simp only at h
      cases h3 : ndOf n g with
      | none => rw [h3] at h; cases h
      | some b =>
        rw [h3] at h
        simp only at h
        by_cases h4 : b = a
        · rw [if_pos h4] at h; cases h
        · exact ⟨n, as, a, b, rfl, h2, h3, h4, h'⟩
theorem badPair_of {d s g : PyData} {n a b : Nat} {as : List FM.Arc} (h1 : netOf d = some (n, as)) (h2 : ndOf n s = some a) (h3 : ndOf n g = some b) (h4 : b ≠ a) : badPair d s g = none := by
  unfold badPair badPr; rw [h1]; simp only; rw [h2]; simp only; rw [h3]; simp only; rw [if_neg h4]
section
variable {K : PySem.W.Frag} {C : Addr} {E : XK} {vs : List V} {H : Hp} {Q : VK}
theorem pu_no_flow (h : sp_no_flow C vs H Q E) : t_no_flow K C E { nx := fun _ H' => Q .non H', rt := Q } (L2.start ["net"] vs) H := by
  obtain ⟨x, v1, G, e, rfl, d1, i⟩ := SP.in1 h (a := fun x => x) (fun _ => rfl) ["net"] (by decide)
  have t0 : ∀ {δ : Fm}, ED e (tTup (tCons (tC (.int 0)) tNil)) δ (.tuple [.int 0]) := ed_tup (ea_c ed_int ea_nil) (by decide)
  cases hn : netOf x with
  | none => exact xr_ret i.S (xr_op2 t0 (xr_cb1 (xr_op1 (xr_call x (eax_here rfl ea_nil) i.pre (by unfold badNet; rw [hn]; rfl))))) (i.xt 0 v1 (by unfold badNet; rw [hn]; rfl) rfl)
  | some p =>
    obtain ⟨n, as⟩ := p
    have ok := netOf_ok hn i.pre
    refine s_out (Ra := fun d => d = intsT (FM.zeros as.length)) i.S (ER.is (ed_repZ t0 (ER.is (ed_len rfl (ed_ix (n := 1) (da := netD n as) (ed_call x (ea_c (ed_var rfl) ea_nil) i.pre (by unfold badNet; rw [hn]; rfl) fun d ⟨n', as', e1, e2⟩ => by
      rw [hn] at e1; cases e1; exact e2) ed_int .t rfl) .t) (by rw [List.length_map])) ok.sz) ?_) (i.rt (by unfold badNet; rw [hn]; rfl)) fun d q => ⟨n, as, hn, q⟩
    unfold intsT FM.zeros
    rw [List.map_replicate]
theorem pu_fits (h : sp_fits C vs H Q E) : t_fits K C E { nx := fun _ H' => Q .non H', rt := Q } (L2.start ["many", "arcs", "ends", "value", "found", "node"] vs) H := by
  obtain ⟨⟨n, as, s, t, x⟩, v1, v2, v3, v4, G, e, rfl, d1, d2, d3, d4, i⟩ := SP.in4 h (fun _ => rfl) ["many", "arcs", "ends", "value", "found", "node"] (by decide)
  obtain ⟨ok, sx⟩ := i.pre
  have ok : NetOk n as := ok
  have sx : VSz x := sx
  have hn := ok.n1
  refine q_if0 (b := !isLoad as x) i.S (eb_not (eb_B (ed_call (as, x) (ea_c (ed_var rfl) (ea_c (ed_var rfl) ea_nil)) ⟨ok.sz, sx⟩ rfl fun d q => q))) (fun z G1 H1 _ S1 => s_out S1 ed_bl (i.rt rfl) fun d q => ?_) fun z G1 H1 _ S1 => ?_
  · rw [q]
    show PyData.bool false = PyData.bool (isFit n as s t x)
    unfold isFit
    have : isLoad as x = false := by simpa using z
    rw [this, Bool.false_and]
  have z : isLoad as x = true := by simpa using z
  obtain ⟨l, hl, hb⟩ := isLoad_iff.mp z
  obtain ⟨k1, k2⟩ := loadOf_some hl
  have hlen := hb.len
  obtain ⟨b, hx⟩ : ∃ b, x = sqD b (l.map PyData.int) := by
    cases x <;> simp [seqOf] at k1
    · exact ⟨true, by rw [k1]; rfl⟩
    · exact ⟨false, by rw [k1]; rfl⟩
  subst hx
  refine q_set S1 (d := .tuple ((List.range n).map fun v => .int (FM.sur as l v))) (ed_call ⟨n, as, b, l⟩ (ea_c (ed_var rfl) (ea_c (ed_var rfl) (ea_c (ed_var rfl) ea_nil))) ⟨ok, hlen⟩ rfl fun d q => q) fun v G2 H2 _ _ S2 => ?_
  let δ : Fm := [Cell.p v1 (iD n), Cell.p v2 (arcsD as), Cell.p v3 (.tuple [iD s, iD t]), Cell.p v4 (sqD b (l.map PyData.int)), .d (.tuple ((List.range n).map fun v => .int (FM.sur as l v))), .no]
  have S2 : Sd e δ G2 H2 _ := S2
  let p (u : Nat) : Bool := decide (FM.sur as l u = 0) || (decide (u = s) || decide (u = t))
  refine s_out (Ra := fun d => d = .bool ((List.range n).all p)) S2 (ER.is (ed_all (bs := (List.range n).map p) (ER.is (el_ed (el_map (xs := List.range n) (enc := iD) (f := fun u => .bool (p u)) (δ' := fun u => δ.set 5 (.d (iD u))) (it_range1 (ea_c (ed_var rfl) ea_nil) (by omega)) (by simp) rfl (fun p _ => ga_name) (fun _ _ => rfl) (fun u hu => ?_) (by simp; omega))) (by rw [List.map_map]; rfl))) (by rw [List.all_map]; rfl)) (i.rt rfl) fun d q => ?_
  · have hu := List.mem_range.mp hu
    refine ER.is (ed_orV (a := decide (FM.sur as l u = 0)) (b := decide (u = s) || decide (u = t)) (ER.is (ed_eqD (ed_ix (n := u) (d := .int (FM.sur as l u)) (ed_var rfl) (ed_var rfl) .t (get_range hu)) ed_int rfl rfl) (by rw [eqv_int])) fun _ => ER.is (ed_in (ns := [(s : Int), (t : Int)]) (ed_var rfl) (ed_var rfl) .t) ?_) rfl
    have : decide ((u : Int) ∈ [(s : Int), (t : Int)]) = (decide (u = s) || decide (u = t)) := by
      rw [← Bool.decide_or, decide_eq_decide]
      simp only [List.mem_cons, List.not_mem_nil, or_false]
      omega
    rw [this]
  · rw [q]
    show _ = PyData.bool (isFit n as s t _)
    unfold isFit
    rw [z, hl, Bool.true_and]; rfl
theorem pu_flow_fits (h : sp_flow_fits C vs H Q E) : t_flow_fits K C E { nx := fun _ H' => Q .non H', rt := Q } (L2.start ["net", "start", "goal", "value", "many", "arcs"] vs) H := by
  obtain ⟨⟨x, s, g, v⟩, v1, v2, v3, v4, G, e, rfl, d1, d2, d3, d4, i⟩ := SP.in4 h (fun _ => rfl) ["net", "start", "goal", "value", "many", "arcs"] (by decide)
  obtain ⟨sz, sx⟩ := i.pre
  have sz : NetSz x := sz
  have sx : VSz v := sx
  cases hn : netOf x with
  | none => exact xq_net i.S rfl hn sz (i.xt 0 v1 (by show badPair x s g = _; unfold badPair; rw [hn]) rfl)
  | some p =>
    obtain ⟨n, as⟩ := p
    have hbp : badPair x s g = badPr n s g := by unfold badPair; rw [hn]
    refine q_net i.S rfl hn sz fun σ1 G1 H1 _ S1 => ?_
    have ok := netOf_ok hn sz
    cases hb : badPr n s g with
    | some k =>
      have hk : k = 1 ∨ k = 2 := by
        unfold badPr at hb
        split at hb
        · exact .inl (Option.some.inj hb).symm
        · split at hb
          · exact .inr (Option.some.inj hb).symm
          · split at hb
            · exact .inr (Option.some.inj hb).symm
            · cases hb
      rcases hk with rfl | rfl
      · exact xq_drop S1 (xr_call (n, s, g) (eax_next (ed_var rfl) (eax_here rfl (ea_c (ed_var rfl) ea_nil))) trivial hb) (i.xt 1 v2 (hbp.trans hb) rfl)
      · exact xq_drop S1 (xr_call (n, s, g) (eax_next (ed_var rfl) (eax_next (ed_var rfl) (eax_here rfl ea_nil))) trivial hb) (i.xt 2 v3 (hbp.trans hb) rfl)
    | none =>
      obtain ⟨n', as', a, b, e1, e2, e3, e4, _⟩ := badPair_none (hbp.trans hb)
      rw [hn] at e1
      cases e1
      obtain ⟨rfl, la⟩ := nd_some e2
      obtain ⟨rfl, lb⟩ := nd_some e3
      refine q_drop (R := fun _ => True) S1 (ed_call (n, iD a, iD b) (ea_c (ed_var rfl) (ea_c (ed_var rfl) (ea_c (ed_var rfl) ea_nil))) trivial hb fun _ _ => trivial) fun G2 H2 _ S2 => ?_
      exact s_out (Ra := fun d => d = .bool (isFit n as a b v)) S2 (ed_call ⟨n, as, a, b, v⟩ (ea_c (ed_var rfl) (ea_c (ed_var rfl) (ea_c (ed_tup (ea_c (ed_var rfl) (ea_c (ed_var rfl) ea_nil)) (show 2 ≤ 1000000 by decide)) (ea_c (ed_var rfl) ea_nil)))) ⟨ok, sx⟩ rfl fun d q => q) (i.rt (hbp.trans hb)) fun d q => ⟨n, as, a, b, hn, e2, e3, q⟩
theorem badPair_le {d s g : PyData} {k : Nat} (h : badPair d s g = some k) : k = 0 ∨ k = 1 ∨ k = 2 := by
  unfold badPair badPr at h
  split at h
  · exact .inl (Option.some.inj h).symm
  · split at h
    · exact .inr (.inl (Option.some.inj h).symm)
    · split at h
      · exact .inr (.inr (Option.some.inj h).symm)
      · split at h
        · exact .inr (.inr (Option.some.inj h).symm)
        · cases h
theorem pu_need_fit (h : sp_need_fit C vs H Q E) : t_need_fit K C E { nx := fun _ H' => Q .non H', rt := Q } (L2.start ["net", "start", "goal", "value"] vs) H := by
  obtain ⟨⟨x, s, g, v⟩, v1, v2, v3, v4, G, e, rfl, d1, d2, d3, d4, i⟩ := SP.in4 h (fun _ => rfl) ["net", "start", "goal", "value"] (by decide)
  obtain ⟨sz, sx⟩ := i.pre
  have sz : NetSz x := sz
  have sx : VSz v := sx
  have hf := badFit_eq x s g v
  cases hb : badPair x s g with
  | some k =>
    rw [hb] at hf
    have hf : badFit x s g v = some k := hf
    rcases badPair_le hb with rfl | rfl | rfl
    · exact xr_nif i.S (xr_call ⟨x, s, g, v⟩ (eax_here rfl (ea_c (ed_var rfl) (ea_c (ed_var rfl) (ea_c (ed_var rfl) ea_nil)))) ⟨sz, sx⟩ hb) (i.xt 0 v1 hf rfl)
    · exact xr_nif i.S (xr_call ⟨x, s, g, v⟩ (eax_next (ed_var rfl) (eax_here rfl (ea_c (ed_var rfl) (ea_c (ed_var rfl) ea_nil)))) ⟨sz, sx⟩ hb) (i.xt 1 v2 hf rfl)
    · exact xr_nif i.S (xr_call ⟨x, s, g, v⟩ (eax_next (ed_var rfl) (eax_next (ed_var rfl) (eax_here rfl (ea_c (ed_var rfl) ea_nil)))) ⟨sz, sx⟩ hb) (i.xt 2 v3 hf rfl)
  | none =>
    obtain ⟨n, as, a, b, e1, e2, e3, e4, _⟩ := badPair_none hb
    rw [hb, e1] at hf
    simp only [e2, e3] at hf
    refine q_if0 (b := !isFit n as a b v) i.S (eb_not (eb_B (ed_call ⟨x, s, g, v⟩ (ea_c (ed_var rfl) (ea_c (ed_var rfl) (ea_c (ed_var rfl) (ea_c (ed_var rfl) ea_nil)))) ⟨sz, sx⟩ hb fun d ⟨n', as', a', b', k1, k2, k3, k4⟩ => by
      rw [e1] at k1; cases k1
      rw [e2] at k2; cases k2
      rw [e3] at k3; cases k3
      exact k4))) (fun z G1 H1 _ S1 => s_raiseR S1 rfl (i.xt 3 v4 ?_ rfl)) fun z G1 H1 _ S1 => ?_
    · show badFit x s g v = some 3
      rw [hf, if_neg (by simpa using z)]
    · have z : isFit n as a b v = true := by simpa using z
      obtain ⟨l, hl, _⟩ := isFit_iff.mp z
      obtain ⟨k1, _⟩ := loadOf_some hl
      exact s_out S1 (ed_tupleOf rfl (ed_var rfl) (SeqD.of k1)) (i.rt (by show badFit x s g v = none; rw [hf, if_pos z])) fun d q => ⟨l, hl, q⟩
theorem pu_worth (h : sp_worth C vs H Q E) : t_worth K C E { nx := fun _ H' => Q .non H', rt := Q } (L2.start ["net", "start", "goal", "flow", "many", "arcs"] vs) H := by
  obtain ⟨⟨x, n, as, b, l, s, t⟩, v1, v2, v3, v4, G, e, rfl, d1, d2, d3, d4, i⟩ := SP.in4 h (fun _ => rfl) ["net", "start", "goal", "flow", "many", "arcs"] (by decide)
  obtain ⟨sz, hn, hs, ht, hne, hf⟩ := i.pre
  have sz : NetSz x := sz
  have hn : netOf x = some (n, as) := hn
  have hs : s < n := hs
  have ht : t < n := ht
  have hne : s ≠ t := hne
  have hf : FM.Flow n as s t l := hf
  have ok := netOf_ok hn sz
  have hlen := hf.1.len
  have hlo : loadOf (sqD b (l.map PyData.int)) = some l := loadOf_ints (of_borne hf.1).1
  refine q_net i.S rfl hn sz fun σ1 G1 H1 _ S1 => ?_
  refine s_out (Ra := fun d => d = .int (FM.sur as l t)) S1 (ed_ix (n := t) (da := .tuple ((List.range n).map fun v => .int (FM.sur as l v))) (ed_call ⟨n, as, false, l⟩ (ea_c (ed_var rfl) (ea_c (ed_var rfl) (ea_c (d := intsT l) (ed_call ⟨x, iD s, iD t, sqD b (l.map PyData.int)⟩ (ea_c (ed_var rfl) (ea_c (ed_var rfl) (ea_c (ed_var rfl) (ea_c (ed_var rfl) ea_nil)))) ⟨sz, .ints (by have := ok.sz; omega)⟩ ?_ fun d ⟨l', e1, e2⟩ => ?_) ea_nil))) ⟨ok, hlen⟩ rfl fun d q => q) (ed_var rfl) .t (get_range ht)) (i.rt rfl) fun d q => q
  · show badFit x (iD s) (iD t) _ = none
    rw [badFit_eq, badPair_of hn (nd_of hs) (nd_of ht) (Ne.symm hne), hn]
    simp only [nd_of hs, nd_of ht]
    rw [if_pos (isFit_iff.mpr ⟨l, hlo, hf⟩)]
  · rw [hlo] at e1; cases e1; exact e2
end
end DL
namespace DL
open PySem L2
section
variable {e : Ent} {δ : Fm} {te ta tb : TE} {t1 t2 : TS} {d : PyData} {K : PySem.W.Frag} {D : L2.Ends} {σ : L2.St} {G H : Hp} {E : XK} {C : Addr} {w : V} {Ra : PyData → Prop}
theorem ed_notInD {kvs : List (PyData × PyData)} {x : Int} (ha : ED e ta δ (.int x)) (hb : ED e tb δ (.dict kvs)) : ED e (tDNotIn ta tb) δ (.bool (!(lookI kvs x).isSome)) := fun σ G H Q S k => ha σ G H _ S fun d' v G1 H1 r g q => hb σ G1 H1 _ g.s fun d2 v2 G2 H2 r2 g2 q2 => by
  subst r r2; cases q
  cases q2 with
  | @dic a ks _ f q2 =>
    have l := look_kv (i := x) q2
    refine ⟨a, valV ks (.inl x), rfl, DGet.k (k := .inl x) (g2.s.sub _ _ f), k _ _ G2 H2 rfl (g.trans g2) ?_⟩
    cases q : lookI kvs x with
    | none => rw [q] at l; rw [show valV ks (.inl x) = none from l]; exact .bl _
    | some z => rw [q] at l; obtain ⟨w, l1, _⟩ := l; rw [l1]; exact .bl _
end
theorem look_nodes {L : List Nat} {v : Nat} : (lookI (dkD (fun y : Nat => (y : Int)) (fun _ => PyData.bool true) L) v).isSome = FM.memL L v := by
  rw [look_dkD, Option.isSome_map]
  unfold FM.memL
  rw [Bool.eq_iff_iff, List.find?_isSome, decide_eq_true_eq]
  constructor
  · rintro ⟨x, hx, q⟩
    have : x = v := by have := of_decide_eq_true q; omega
    subst this; exact hx
  · intro h; exact ⟨v, h, by simp⟩
def sumO : List (Option Int) → Int
  | [] => 0
  | o :: r => o.getD 0 + sumO r
theorem cutw_os {S : Nat → Bool} : ∀ as : List FM.Arc, FM.cutw as S = if none ∈ (as.filter fun a => S a.tl && !S a.hd).map (·.mo) then none else some (sumO ((as.filter fun a => S a.tl && !S a.hd).map (·.mo)))
  | [] => by simp [FM.cutw, sumO]
  | a :: as => by
    have ih := cutw_os (S := S) as
    simp only [FM.cutw]
    by_cases q : (S a.tl && !S a.hd) = true
    · rw [if_pos q, List.filter_cons_of_pos (p := fun a : FM.Arc => S a.tl && !S a.hd) q, List.map_cons, ih]
      cases hm : a.mo with
      | none => simp
      | some m =>
        by_cases hn : none ∈ (as.filter fun a => S a.tl && !S a.hd).map (·.mo)
        · rw [if_pos hn, if_pos (List.mem_cons_of_mem _ hn)]
        · rw [if_neg hn, if_neg (by simp only [List.mem_cons, not_or]; exact ⟨by simp, hn⟩)]
          rfl
    · rw [if_neg q, List.filter_cons_of_neg (p := fun a : FM.Arc => S a.tl && !S a.hd) q, ih]
theorem opts_ints : ∀ {os : List (Option Int)}, none ∉ os → os.map optD = (os.map fun o => o.getD 0).map PyData.int ∧ (os.map fun o => o.getD 0).sum = sumO os
  | [], _ => ⟨rfl, rfl⟩
  | none :: os, h => absurd List.mem_cons_self h
  | some m :: os, h => by
    obtain ⟨h1, h2⟩ := opts_ints (os := os) fun z => h (List.mem_cons_of_mem _ z)
    refine ⟨?_, ?_⟩
    · rw [List.map_cons, h1]; rfl
    · rw [List.map_cons, List.sum_cons, h2]; rfl
section
variable {K : PySem.W.Frag} {C : Addr} {E : XK} {vs : List V} {H : Hp} {Q : VK}
theorem asc_pairs : ∀ {L : List Nat}, L.Pairwise (· < ·) → ascB L = true
  | [], _ => rfl
  | [_], _ => rfl
  | x :: y :: r, h => by
    have ih := asc_pairs (List.pairwise_cons.mp h).2
    unfold ascB at ih ⊢
    show (decide (x < y) && ((y :: r).zip r).all _) = true
    have e1 : decide (x < y) = true := decide_eq_true ((List.pairwise_cons.mp h).1 y (by simp))
    rw [e1, Bool.true_and]
    exact ih
theorem pu_cut_worth (h : sp_cut_worth C vs H Q E) : t_cut_worth K C E { nx := fun _ H' => Q .non H', rt := Q } (L2.start ["net", "lot", "many", "arcs", "inside", "borne", "node", "arc"] vs) H := by
  obtain ⟨⟨x, n, as, L⟩, v1, v2, G, e, rfl, d1, d2, i⟩ := SP.in2 h (fun _ => rfl) ["net", "lot", "many", "arcs", "inside", "borne", "node", "arc"] (by decide)
  obtain ⟨sz, hn, l0, l1, pw, lt⟩ := i.pre
  have sz : NetSz x := sz
  have hn : netOf x = some (n, as) := hn
  have l0 : 0 < L.length := l0
  have l1 : L.length ≤ 2000 := l1
  have pw : L.Pairwise (· < ·) := pw
  have lt : ∀ v ∈ L, v < n := lt
  have ok := netOf_ok hn sz
  have osz := ok.sz
  refine q_net i.S rfl hn sz fun σ1 G1 H1 _ S1 => ?_
  refine q_if0 (b := false) S1 (eb_not (a := true) (eb_B (ed_call (L, n) (ea_c (ed_var rfl) (ea_c (ed_var rfl) ea_nil)) ⟨l0, l1⟩ rfl fun d q => ?_))) (fun z => nomatch z) fun _ G2 H2 _ S2 => ?_
  · rw [q]
    show PyData.bool (L.all (fun v => decide (v < n)) && ascB L) = _
    rw [asc_pairs pw, Bool.and_true, List.all_eq_true.mpr fun v hv => decide_eq_true (lt v hv)]
  let δ : Fm := [Cell.p v1 x, Cell.p v2 (nodesT L), .d (iD n), .d (arcsD as), .no, .no, .no, .no]
  have S2 : Sd e δ G2 H2 σ1 := S2
  have nd : L.Pairwise (· ≠ ·) := pw.imp fun h => by omega
  refine q_set S2 (ed_dc (xs := L) (enc := iD) (kf := fun y => (y : Int)) (f := fun _ => .bool true) (δ' := fun y => δ.set 6 (.d (iD y))) (it_seq (ed_var rfl) .t) (by simp) rfl (fun p _ => ga_name) (fun _ _ => rfl) (fun y _ => ed_var rfl) (fun y _ => ed_bl) (by omega) (List.pairwise_map.mpr (nd.imp fun h z => h (by omega)))) fun v3 G3 H3 _ _ S3 => ?_
  let dk := dkD (fun y : Nat => (y : Int)) (fun _ => PyData.bool true) L
  let δ2 : Fm := [Cell.p v1 x, Cell.p v2 (nodesT L), .d (iD n), .d (arcsD as), .d (.dict dk), .no, .no, .no]
  have S3 : Sd e δ2 G3 H3 _ := S3
  let p (a : FM.Arc) : Bool := FM.memL L a.tl && !FM.memL L a.hd
  refine q_set (d := .list ((as.filter p).map fun a => optD a.mo)) S3 (el_ed (el_lc (xs := as) (enc := arcD) (p := p) (f := fun a => optD a.mo) (δ' := fun a => δ2.set 7 (.d (arcD a))) (it_seq (ed_var rfl) .t) (by simp) rfl (fun p _ => ga_name) (fun _ _ => rfl) (fun a _ => ?_) (fun a _ _ => ed_ix (n := 2) (ed_var rfl) ed_int .t rfl) (by omega))) fun v4 G4 H4 _ _ S4 => ?_
  · refine eb_and (eb_B (ER.is (ed_inD (x := (a.tl : Int)) (ed_ix (n := 0) (d := iD a.tl) (ed_var rfl) ed_int .t rfl) (ed_var rfl)) ?_)) fun _ => eb_B (ER.is (ed_notInD (x := (a.hd : Int)) (ed_ix (n := 1) (d := iD a.hd) (ed_var rfl) ed_int .t rfl) (ed_var rfl)) ?_)
    · rw [look_nodes]
    · rw [look_nodes]
  let os := (as.filter p).map (·.mo)
  have eo : ((as.filter p).map fun a => optD a.mo) = os.map optD := by rw [List.map_map]; rfl
  have cw := cutw_os (S := FM.memL L) as
  have cw : FM.cutw as (FM.memL L) = if none ∈ os then none else some (sumO os) := cw
  refine s_out (Ra := fun d => d = optD (FM.cutw as (FM.memL L))) S4 (ed_if (b := decide (none ∈ os)) (eb_T (ed_noneIn (ed_var (by rw [← eo]; rfl)))) (fun z => ?_) fun z => ?_) (i.rt rfl) fun d q => q
  · rw [cw, if_pos (of_decide_eq_true z)]
    exact ed_non
  · have z := of_decide_eq_false z
    rw [cw, if_neg z]
    obtain ⟨o1, o2⟩ := opts_ints z
    exact ER.is (ed_sum (ns := os.map fun o => o.getD 0) (ed_var (by rw [← o1, ← eo]; rfl))) (by rw [o2]; rfl)
theorem pu_left_of (h : sp_left_of C vs H Q E) : t_left_of K C E { nx := fun _ H' => Q .non H', rt := Q } (L2.start ["arcs", "load", "at", "way"] vs) H := by
  obtain ⟨⟨as, l, j, f⟩, v1, v2, v3, v4, G, e, rfl, d1, d2, d3, d4, i⟩ := SP.in4 h (fun _ => rfl) ["arcs", "load", "at", "way"] (by decide)
  obtain ⟨hl, hj⟩ := i.pre
  have hl : l.length = as.length := hl
  have hj : j < as.length := hj
  have ha : as[j]? = some as[j] := List.getElem?_eq_getElem hj
  have hx : l[j]? = some (l[j]'(by omega)) := List.getElem?_eq_getElem (by omega)
  generalize as[j] = a at ha
  generalize l[j]'(by omega) = x at hx
  have ex : (l.map PyData.int)[j]? = some (.int x) := by rw [List.getElem?_map, hx]; rfl
  have ea : (as.map arcD)[j]? = some (arcD a) := by rw [List.getElem?_map, ha]; rfl
  have fin : ∀ d, d = optD (FM.lft a x f) → ∃ a x, as[j]? = some a ∧ l[j]? = some x ∧ d = optD (FM.lft a x f) := fun d q => ⟨a, x, ha, hx, q⟩
  refine q_if0 (b := !f) i.S (eb_T (ER.is (ed_eqD (da := .int (wayI f)) (ed_var rfl) ed_int rfl rfl) ?_)) (fun z G1 H1 _ S1 => ?_) fun z G1 H1 _ S1 => ?_
  · rw [eqv_int]; cases f <;> rfl
  · have z : f = false := by simpa using z
    subst z
    exact s_out S1 (ed_ix (n := j) (d := .int x) (ed_var rfl) (ed_var rfl) .t ex) (i.rt rfl) fun d q => fin d q
  · have z : f = true := by simpa using z
    subst z
    have e2 : ED e (tOp (rIx K) (tOp (rIx K) (tVar 0) (tVar 2)) (tC (.int 2))) (Cell.p v1 (arcsD as) :: Cell.p v2 (intsT l) :: Cell.p v3 (iD j) :: Cell.p v4 (.int (wayI true)) :: List.replicate 0 .no) (optD a.mo) := ed_ix (n := 2) (ed_ix (n := j) (ed_var rfl) (ed_var rfl) .t ea) ed_int .t rfl
    refine s_out (Ra := fun d => d = optD (FM.lft a x true)) S1 (ed_if (eb_T (ed_isN e2)) (fun z => ?_) fun z => ?_) (i.rt rfl) fun d q => fin d q
    · cases hm : a.mo with
      | none => exact ER.is ed_non (by simp [FM.lft, hm, optD])
      | some m => rw [hm] at z; cases z
    · cases hm : a.mo with
      | none => rw [hm] at z; cases z
      | some m =>
        rw [hm] at e2
        exact ER.is (ed_sub e2 (ed_ix (n := j) (d := .int x) (ed_var rfl) (ed_var rfl) .t ex)) (by simp [FM.lft, hm, optD])
theorem pu_can_go (h : sp_can_go C vs H Q E) : t_can_go K C E { nx := fun _ H' => Q .non H', rt := Q } (L2.start ["arcs", "load", "at", "way"] vs) H := by
  obtain ⟨⟨as, l, j, f⟩, v1, v2, v3, v4, G, e, rfl, d1, d2, d3, d4, i⟩ := SP.in4 h (fun _ => rfl) ["arcs", "load", "at", "way"] (by decide)
  obtain ⟨hl, hj⟩ := i.pre
  have hl : l.length = as.length := hl
  have hj : j < as.length := hj
  have ha : as[j]? = some as[j] := List.getElem?_eq_getElem hj
  have hx : l[j]? = some (l[j]'(by omega)) := List.getElem?_eq_getElem (by omega)
  generalize as[j] = a at ha
  generalize l[j]'(by omega) = x at hx
  have fin : ∀ d, d = PyData.bool (!decide (FM.lft a x f = some 0)) → ∃ a x, as[j]? = some a ∧ l[j]? = some x ∧ d = PyData.bool (!decide (FM.lft a x f = some 0)) := fun d q => ⟨a, x, ha, hx, q⟩
  have eq : PyData.eqv (optD (FM.lft a x f)) (.int 0) = decide (FM.lft a x f = some 0) := by
    cases FM.lft a x f with
    | none => rfl
    | some m =>
      show PyData.eqv (.int m) (.int 0) = _
      rw [eqv_int]; simp
  have sh : shp (optD (FM.lft a x f)) = true := by cases FM.lft a x f <;> rfl
  refine s_out (Ra := fun d => d = .bool (!decide (FM.lft a x f = some 0))) i.S (ER.is (ed_neD (da := optD (FM.lft a x f)) (ed_call ⟨as, l, j, f⟩ (ea_c (ed_var rfl) (ea_c (ed_var rfl) (ea_c (ed_var rfl) (ea_c (ed_var rfl) ea_nil)))) ⟨hl, hj⟩ rfl fun d ⟨a', x', k1, k2, k3⟩ => ?_) ed_int sh rfl) (by rw [eq])) (i.rt rfl) fun d q => fin d q
  rw [show as[j]? = some a' from k1] at ha
  rw [show l[j]? = some x' from k2] at hx
  cases ha; cases hx
  exact k3
theorem pu_side_of (h : sp_side_of C vs H Q E) : t_side_of K C E { nx := fun _ H' => Q .non H', rt := Q } (L2.start ["arcs", "step", "tail", "head", "most"] vs) H := by
  obtain ⟨⟨as, j, f⟩, v1, v2, G, e, rfl, d1, d2, i⟩ := SP.in2 h (fun _ => rfl) ["arcs", "step", "tail", "head", "most"] (by decide)
  have hj : j < as.length := i.pre
  have ha : as[j]? = some as[j] := List.getElem?_eq_getElem hj
  generalize as[j] = a at ha
  have ea : (as.map arcD)[j]? = some (arcD a) := by rw [List.getElem?_map, ha]; rfl
  let δ : Fm := [Cell.p v1 (arcsD as), Cell.p v2 (stepD (j, f)), .d (iD a.tl), .d (iD a.hd), .d (optD a.mo)]
  refine q_asgG (R := fun d => d = arcD a) (δ' := fun _ => δ) i.S (ed_ix (n := j) (ed_var rfl) (ed_ix (n := 0) (d := iD j) (ed_var rfl) ed_int .t rfl) .t ea) (fun d q => by rw [q]; exact ga_three) fun d σ1 G1 H1 _ _ S1 => ?_
  refine s_out (Ra := fun d => d = .tuple [iD (if f then a.tl else a.hd), iD (if f then a.hd else a.tl)]) S1 (ed_if (b := f) (eb_T (ER.is (ed_eqD (ed_ix (n := 1) (d := .int (wayI f)) (ed_var rfl) ed_int .t rfl) ed_int rfl rfl) (by rw [eqv_int]; cases f <;> rfl))) (fun z => ?_) fun z => ?_) (i.rt rfl) fun d q => ⟨a, ha, q⟩
  · subst z
    exact ed_tup (ea_c (ed_var rfl) (ea_c (ed_var rfl) ea_nil)) (show 2 ≤ 1000000 by decide)
  · subst z
    exact ed_tup (ea_c (ed_var rfl) (ea_c (ed_var rfl) ea_nil)) (show 2 ≤ 1000000 by decide)
end
end DL
namespace DL
open PySem L2
theorem goneL_snoc (l : List Int) (st : List (Nat × Bool)) (p : Nat × Bool) (m : Int) : FM.goneL l (st ++ [p]) m = FM.gone1 m (FM.goneL l st m) p := by
  unfold FM.goneL; rw [List.foldl_append]; rfl
theorem wayI_mul (f : Bool) (m : Int) : wayI f * m = FM.sgn f m := by
  cases f
  · show (-1 : Int) * m = -m
    omega
  · show (1 : Int) * m = m
    omega
theorem cmul_way (f : Bool) (m : Int) : CMul (wayI f) m := .inl (by cases f <;> decide)
theorem take_snoc {α : Type} {xs : List α} {j : Nat} {x : α} (h : xs[j]? = some x) : xs.take (j + 1) = xs.take j ++ [x] := by rw [List.take_add_one, h]; rfl
/-- what is left at a step -/
def lf (as : List FM.Arc) (l : List Int) (q : Nat × Bool) : Option Int := match as[q.1]?, l[q.1]? with
  | some a, some x => FM.lft a x q.2
  | _, _ => none
theorem least_of {as : List FM.Arc} {l : List Int} {st : List (Nat × Bool)} (hl : l.length = as.length) (hs : ∀ q ∈ st, q.1 < as.length) :
    (∀ (h : (st.map (lf as l)).filterMap id = []), FM.Least as l st none) ∧ ∀ m, m ∈ (st.map (lf as l)).filterMap id → (∀ y, y ∈ (st.map (lf as l)).filterMap id → m ≤ y) → FM.Least as l st (some m) := by
  have mem : ∀ {y}, y ∈ (st.map (lf as l)).filterMap id ↔ ∃ q ∈ st, lf as l q = some y := fun {y} => by
    rw [List.mem_filterMap]
    constructor
    · rintro ⟨o, ho, q⟩
      obtain ⟨q', hq, rfl⟩ := List.mem_map.mp ho
      exact ⟨q', hq, q⟩
    · rintro ⟨q', hq, e⟩
      exact ⟨_, List.mem_map.mpr ⟨q', hq, rfl⟩, e⟩
  have lfe : ∀ {i f a x}, as[i]? = some a → l[i]? = some x → lf as l (i, f) = FM.lft a x f := fun {i f a x} h1 h2 => by
    unfold lf; simp only [h1, h2]
  refine ⟨fun h i f a x hm h1 h2 => ?_, fun m hm hy => ⟨?_, fun i f a x q hq h1 h2 h3 => ?_⟩⟩
  · cases z : FM.lft a x f with
    | none => rfl
    | some y =>
      have : y ∈ (st.map (lf as l)).filterMap id := mem.mpr ⟨(i, f), hm, (lfe h1 h2).trans z⟩
      rw [h] at this; cases this
  · obtain ⟨⟨i, f⟩, hq, z⟩ := mem.mp hm
    have hi := hs _ hq
    have ha : as[i]? = some as[i] := List.getElem?_eq_getElem hi
    have hx : l[i]? = some (l[i]'(by have : i < as.length := hi; omega)) := List.getElem?_eq_getElem (by have : i < as.length := hi; omega)
    exact ⟨i, f, _, _, hq, ha, hx, (lfe ha hx).symm.trans z⟩
  · exact hy q (mem.mpr ⟨(i, f), hq, (lfe h1 h2).trans h3⟩)
theorem opt_known : ∀ os : List (Option Int), (os.filter fun o => !isNone (optD o)).map optD = (os.filterMap id).map PyData.int
  | [] => rfl
  | none :: os => by
    have ih := opt_known os
    rw [List.filter_cons_of_neg (by simp [optD, isNone])]
    exact ih
  | some m :: os => by
    have ih := opt_known os
    rw [List.filter_cons_of_pos (by simp [optD, isNone]), List.map_cons, ih]
    rfl
theorem look_fs {fs : FM.Fs} (nd : (FM.keys fs).Nodup) {v : Nat} {o : Option (Nat × Bool)} (h : (v, o) ∈ fs) : lookI (fsK fs) v = some (comeD o) := by
  induction fs with
  | nil => cases h
  | cons p fs ih =>
    obtain ⟨u, q⟩ := p
    show (if (u : Int) = (v : Int) then some (comeD q) else lookI (fsK fs) v) = _
    have nd' : (u :: FM.keys fs).Nodup := nd
    obtain ⟨n1, n2⟩ := List.nodup_cons.mp nd'
    obtain z | z := List.mem_cons.mp h
    · cases z; rw [if_pos rfl]
    · have : u ≠ v := fun y => by
        subst y
        exact n1 (List.mem_map.mpr ⟨_, z, rfl⟩)
      rw [if_neg (by omega)]
      exact ih n2 z
theorem look_keys {fs : FM.Fs} {v : Nat} : (lookI (fsK fs) v).isSome = decide (v ∈ FM.keys fs) := by
  induction fs with
  | nil => rfl
  | cons p fs ih =>
    obtain ⟨u, q⟩ := p
    show (if (u : Int) = (v : Int) then some (comeD q) else lookI (fsK fs) v).isSome = decide (v ∈ u :: FM.keys fs)
    by_cases z : u = v
    · subst z; simp
    · rw [if_neg (by omega), ih]
      have : v ≠ u := fun y => z y.symm
      simp [this]
section
variable {e : Ent} {δ : Fm} {te ta tb : TE} {tt : TT} {tb' : TS} {t1 t2 : TS} {d : PyData} {K : PySem.W.Frag} {D : L2.Ends} {σ : L2.St} {G H : Hp} {E : XK} {C : Addr} {w : V} {Ra : PyData → Prop}
theorem q_while {tb : TS} (S : Sd e δ G H σ) (W : Nat → Fm → Prop) (m0 : Nat) (p0 : W m0 δ)
    (hs : ∀ e1, Sub e1 e → ∀ m δ1 σ1 G1 H1, W m δ1 → Sd e1 δ1 G1 H1 σ1 → ∃ b, EB e1 tt δ1 b ∧ (b = true → ∀ G2 H2, Sd e1 δ1 G2 H2 σ1 → tb { D with nx := Nx e1 (fun δ' => ∃ m', m' < m ∧ W m' δ'), ct := Nx e1 (fun δ' => ∃ m', m' < m ∧ W m' δ'), bk := t2 D } σ1 H2) ∧
      (b = false → ∀ G2 H2, Ex G G2 → Sd e δ1 G2 H2 σ1 → t2 D σ1 H2)) : tSeq (tWhile tt tb) t2 D σ H := seq (s_while S W m0 p0 hs)
end
section
variable {K : PySem.W.Frag} {C : Addr} {E : XK} {vs : List V} {H : Hp} {Q : VK}
theorem pu_gone (h : sp_gone C vs H Q E) : t_gone K C E { nx := fun _ H' => Q .non H', rt := Q } (L2.start ["load", "steps", "many", "found", "at", "way"] vs) H := by
  obtain ⟨⟨l, st, m⟩, v1, v2, v3, G, e, rfl, d1, d2, d3, i⟩ := SP.in3 h (fun _ => rfl) ["load", "steps", "many", "found", "at", "way"] (by decide)
  obtain ⟨sz, hs⟩ := i.pre
  have hs : ∀ q ∈ st, q.1 < l.length := hs
  let F (j : Nat) (c4 c5 : Cell) : Fm := [Cell.p v1 (intsT l), Cell.p v2 (stepsD st), Cell.p v3 (.int m), .l ((FM.goneL l (st.take j) m).map PyData.int), c4, c5]
  refine q_asgL i.S (el_listOf rfl (ed_var rfl) .t) fun xs p G1 H1 r _ _ S1 => ?_
  subst r
  refine q_forD (items := st.map stepD) S1 (it_seq (ed_var rfl) .t) (fun j δ => ∃ c4 c5, δ = F j c4 c5) ⟨.no, .no, rfl⟩ (fun e1 sb j d δ1 σ1 G2 H2 hd hP S2 => ?_) fun δn σn Gn Hn hP _ S2 => ?_
  · obtain ⟨c4, c5, rfl⟩ := hP
    rw [List.getElem?_map] at hd
    obtain ⟨⟨k, f⟩, hk, rfl⟩ := Option.map_eq_some_iff.mp hd
    have hlt : k < l.length := hs _ (List.mem_of_getElem? hk)
    have hlt2 : k < (FM.goneL l (st.take j) m).length := by rw [FM.gone_len]; exact hlt
    refine ⟨_, _, ga_two, fun σ2 G3 H3 S3 => ?_⟩
    have S3 : Sd e1 (F j (.d (iD k)) (.d (.int (wayI f)))) G3 H3 σ2 := S3
    have hx : (FM.goneL l (st.take j) m)[k]? = some ((FM.goneL l (st.take j) m)[k]) := List.getElem?_eq_getElem hlt2
    refine s_augL (n := k) (x := (FM.goneL l (st.take j) m)[k]) (y := wayI f * m) S3 rfl (ed_var rfl) (by rw [List.getElem?_map, hx]; rfl) (ed_mul (ed_var rfl) (ed_var rfl) (cmul_way f m)) fun G4 H4 _ S4 => ⟨_, G4, ⟨.d (iD k), .d (.int (wayI f)), ?_⟩, S4⟩
    have key : ((FM.goneL l (st.take j) m).map PyData.int).set k (.int ((FM.goneL l (st.take j) m)[k] + wayI f * m)) = (FM.goneL l (st.take (j + 1)) m).map PyData.int := by
      rw [take_snoc hk, goneL_snoc]
      unfold FM.gone1
      rw [List.map_set, wayI_mul]
      simp only [List.getD_eq_getElem?_getD, hx, Option.getD_some]
    exact congrArg (fun X => [Cell.p v1 (intsT l), Cell.p v2 (stepsD st), Cell.p v3 (.int m), Cell.l X, .d (iD k), .d (.int (wayI f))]) key
  · obtain ⟨c4, c5, rfl⟩ := hP
    refine s_out S2 (ed_tupO rfl rfl) (i.rt rfl) fun d q => ?_
    rw [q, List.length_map, List.take_length]; rfl
theorem pu_least_left (h : sp_least_left C vs H Q E) : t_least_left K C E { nx := fun _ H' => Q .non H', rt := Q } (L2.start ["arcs", "load", "steps", "found", "known", "at", "way", "one"] vs) H := by
  obtain ⟨⟨as, l, st⟩, v1, v2, v3, G, e, rfl, d1, d2, d3, i⟩ := SP.in3 h (fun _ => rfl) ["arcs", "load", "steps", "found", "known", "at", "way", "one"] (by decide)
  obtain ⟨hl, sz, hs⟩ := i.pre
  have hl : l.length = as.length := hl
  have sz : st.length ≤ 1000 := sz
  have hs : ∀ q ∈ st, q.1 < as.length := hs
  let δ : Fm := [Cell.p v1 (arcsD as), Cell.p v2 (intsT l), Cell.p v3 (stepsD st), .no, .no, .no, .no, .no]
  let os := st.map (lf as l)
  have oz : os.length ≤ 1000 := by show (st.map _).length ≤ _; rw [List.length_map]; exact sz
  refine q_set (d := .list (os.map optD)) i.S (ER.is (el_ed (el_map (xs := st) (enc := stepD) (f := fun q => optD (lf as l q)) (δ' := fun q => (δ.set 5 (.d (iD q.1))).set 6 (.d (.int (wayI q.2)))) (it_seq (ed_var rfl) .t) (by simp) rfl (fun p _ => ga_two) (fun _ _ => rfl) (fun q hq => ed_call ⟨as, l, q.1, q.2⟩ (ea_c (ed_var rfl) (ea_c (ed_var rfl) (ea_c (ed_var rfl) (ea_c (ed_var rfl) ea_nil)))) ⟨hl, hs q hq⟩ rfl fun d ⟨a, x, k1, k2, k3⟩ => ?_) (by omega))) (by rw [List.map_map]; rfl)) fun v4 G1 H1 _ _ S1 => ?_
  · rw [k3]
    have k1 : as[q.1]? = some a := k1
    have k2 : l[q.1]? = some x := k2
    unfold lf
    simp only [k1, k2]
  let δ2 : Fm := [Cell.p v1 (arcsD as), Cell.p v2 (intsT l), Cell.p v3 (stepsD st), .d (.list (os.map optD)), .no, .no, .no, .no]
  refine q_set (d := .list ((os.filterMap id).map PyData.int)) S1 (ER.is (el_ed (el_lc (xs := os) (enc := optD) (p := fun o => !isNone (optD o)) (f := optD) (δ' := fun o => δ2.set 7 (.d (optD o))) (it_seq (ed_var rfl) .l) (by simp) rfl (fun p _ => ga_name) (fun _ _ => rfl) (fun o _ => eb_T (ed_notN (ed_var rfl))) (fun o _ _ => ed_var rfl) (by omega))) (by rw [opt_known])) fun v5 G2 H2 _ _ S2 => ?_
  obtain ⟨k1, k2⟩ := least_of hl hs
  refine s_out (Ra := fun d => ∃ o, FM.Least as l st o ∧ d = optD o) S2 (ed_if (b := decide (0 < (os.filterMap id).length)) (eb_T (ER.is (ed_gt (ed_len rfl (ed_var rfl) .l) ed_int) ?_)) (fun z => ER.mono (er_min (ed_var rfl) (of_decide_eq_true z)) fun d ⟨m, q1, q2, q3⟩ => ⟨some m, k2 m q2 q3, q1⟩) fun z => ER.to ed_non ⟨none, k1 ?_, rfl⟩) (i.rt rfl) fun d q => q
  · rw [List.length_map]
    congr 1
    rw [decide_eq_decide]; omega
  · have t : ¬ 0 < ((st.map (lf as l)).filterMap id).length := of_decide_eq_false z
    exact List.eq_nil_of_length_eq_zero (by omega)
theorem pu_traced (h : sp_traced C vs H Q E) : t_traced K C E { nx := fun _ H' => Q .non H', rt := Q } (L2.start ["arcs", "found", "node", "steps", "here"] vs) H := by
  obtain ⟨⟨n, as, l, s, dep, fs, v⟩, v1, v2, v3, G, e, rfl, d1, d2, d3, i⟩ := SP.in3 h (fun _ => rfl) ["arcs", "found", "node", "steps", "here"] (by decide)
  obtain ⟨ok, B, hv⟩ := i.pre
  have ok : NetOk n as := ok
  have B : FM.Bfs n as l s dep fs := B
  have hv : v ∈ FM.keys fs := hv
  have osz := ok.sz
  let F (acc : List (Nat × Bool)) (u : Nat) : Fm := [Cell.p v1 (arcsD as), Cell.p v2 (.dict (fsK fs)), Cell.p v3 (iD v), .l (acc.map stepD), .d (iD u)]
  refine q_parL i.S (el_lst ea_nil fun _ q => by rw [q]; decide) (ed_var rfl) (by decide) fun σ1 G1 H1 _ S1 => ?_
  have S1 : Sd e (F [] v) G1 H1 σ1 := S1
  refine q_while S1 (fun m δ => ∃ acc u, δ = F acc u ∧ FM.DWalk as l dep u acc.reverse v ∧ u ∈ FM.keys fs ∧ dep u = m) (dep v) ⟨[], v, rfl, .nil, hv, rfl⟩ fun e1 sb m δ1 σ2 G2 H2 hW S2 => ?_
  obtain ⟨acc, u, rfl, w, hu, rfl⟩ := hW
  obtain ⟨⟨u', o⟩, hm, eu⟩ := List.mem_map.mp hu
  have eu : u' = u := eu
  subst eu
  have hlk := look_fs B.nd hm
  have eg : ∀ {e2 : Ent} {acc'}, ED e2 (tDGet (tVar 1) (tVar 4)) (F acc' u') (comeD o) := fun {e2 acc'} => ed_getD (ed_var rfl) (ed_var rfl) hlk
  obtain ⟨b1, b2⟩ := B.look _ _ hm
  have al : acc.length ≤ 1000 := by
    have nd := w.nodup
    rw [List.map_reverse] at nd
    have hz := FM.nodup_lt_len as.length _ nd fun x hx => by
      rw [List.mem_reverse] at hx
      obtain ⟨q, hq, rfl⟩ := List.mem_map.mp hx
      obtain ⟨a', b', ⟨a, x, r1, _⟩, _⟩ := w.each q.1 q.2 (List.mem_reverse.mpr hq)
      exact (List.getElem?_eq_some_iff.mp r1).1
    simp at hz
    omega
  refine ⟨!isNone (comeD o), eb_T (ed_notN eg), fun hb G3 H3 S3 => ?_, fun hb G3 H3 _ S3 => ?_⟩
  · cases o with
    | none => cases hb
    | some q =>
      obtain ⟨k, f⟩ := q
      obtain ⟨u, hku, r, du⟩ := b2 k f rfl
      obtain ⟨a, x, r1, r2, r3, r4, r5⟩ := id r
      have hk := (List.getElem?_eq_some_iff.mp r1).1
      refine q_app S3 rfl (eg (e2 := e1) (acc' := acc)) (by rw [List.length_map]; omega) fun d G4 H4 rd _ S4 => ?_
      subst rd
      have S4 : Sd e1 (F (acc ++ [(k, f)]) u') G4 H4 σ2 := by
        have : acc.map stepD ++ [comeD (some (k, f))] = (acc ++ [(k, f)]).map stepD := by rw [List.map_append]; rfl
        have z := S4
        rw [this] at z
        exact z
      refine s_asg (R := fun d => d = iD u) S4 (ed_ix (n := 0) (da := .tuple [iD (if f then a.tl else a.hd), iD (if f then a.hd else a.tl)]) (ed_call (as, (k, f)) (ea_c (ed_var rfl) (ea_c eg ea_nil)) hk rfl fun d ⟨a', q1, q2⟩ => ?_) ed_int .t (by rw [r4]; rfl)) fun d v' G5 H5 rd _ _ S5 => ?_
      · rw [show as[k]? = some a' from q1] at r1
        cases r1; exact q2
      · subst rd
        exact ⟨_, G5, ⟨dep u, by omega, acc ++ [(k, f)], u, rfl, w.back_step r du, hku, rfl⟩, S5⟩
  · cases o with
    | some q => cases hb
    | none =>
      have := b1 rfl
      subst this
      refine s_out S3 (ed_tupOf rfl (el_revO rfl)) (i.rt rfl) fun d ⟨xs, q1, q2⟩ => ⟨acc.reverse, w, ?_⟩
      rw [q2, q1, ← List.map_reverse]; rfl
end
end DL
namespace DL
open PySem L2
section
variable {e : Ent} {δ : Fm} {te ta tb : TE} {tt : TT} {tb' : TS} {t1 t2 : TS} {d : PyData} {K : PySem.W.Frag} {D : L2.Ends} {σ : L2.St} {G H : Hp} {E : XK} {C : Addr} {w : V} {Ra : PyData → Prop}
theorem q_dput {kvs : List (PyData × PyData)} {i : Nat} {x : Int} {R : PyData → Prop} (S : Sd e δ G H σ) (hi : δ[i]? = some (.m kvs)) (h : ER e te δ R) (hb : ED e tb δ (.int x)) (hn : lookI kvs x = none) (hz : kvs.length < 1000000) (k : ∀ d G' H', R d → Ex G G' → Sd e (δ.set i (.m (kvs ++ [(.int x, d)]))) G' H' σ → t2 D σ H') :
    tSeq (sDPut (tVar i) tb te) t2 D σ H := seq (s_dput S hi h hb hn hz k)
theorem s_augN {i : Nat} {x y : Int} {f : Int → Int → Int} (S : Sd e δ G H σ) (hx : (δ[i]?).bind cellD = some (.int x)) (h : ED e te δ (.int y)) (k : ∀ v G' H', Ex G G' → Sd e (δ.set i (.d (.int (f x y)))) G' H' (σ.set i (some v)) → D.nx (σ.set i (some v)) H') : tAug i te (ipI f) D σ H := by
  obtain ⟨v, h1, h2⟩ := S.var hx
  cases h2
  refine ⟨_, h1, h σ G H _ S fun d' v' G1 H1 r g q => ?_⟩
  subst r; cases q
  exact ⟨x, y, rfl, rfl, k _ G1 H1 g.g (g.s.setD (.int _))⟩
theorem s_retM {i : Nat} {kvs : List (PyData × PyData)} {R : PyData → Prop} (S : Sd e δ G H σ) (hi : δ[i]? = some (.m kvs)) (nb : ∀ a, ¬ e.B a) (r : Rtn e D.rt R) (h : R (.dict kvs)) : tRet (tVar i) D σ H := by
  obtain ⟨G', _, S'⟩ := S.freezeM hi fun a _ => nb a
  have hl := (List.getElem?_eq_some_iff.mp hi).1
  exact s_out S' (ed_var (i := i) (d := .dict kvs) (by rw [List.getElem?_set_self hl]; rfl)) r fun d q => by rw [q]; exact h
end
theorem res_iff {as : List FM.Arc} {l : List Int} {u v k : Nat} {f : Bool} {a : FM.Arc} {x : Int} (hm : (k, f, v) ∈ FM.leadsFrom 0 as u) (ha : as[k]? = some a) (hx : l[k]? = some x) : FM.Res as l u v k f ↔ FM.lft a x f ≠ some 0 := by
  obtain ⟨j, b, e1, e2, e3, e4⟩ := FM.mem_leads.mp hm
  have : k = j := by omega
  subst this
  rw [ha] at e2; cases e2
  constructor
  · rintro ⟨a', x', k1, k2, k3, _⟩
    rw [ha] at k1; rw [hx] at k2
    cases k1; cases k2
    exact k3
  · intro h
    exact ⟨a, x, ha, hx, h, e3, e4⟩
section
variable {K : PySem.W.Frag} {C : Addr} {E : XK} {vs : List V} {H : Hp} {Q : VK}
theorem pu_come_by (h : sp_come_by C vs H Q E) : t_come_by K C E { nx := fun _ H' => Q .non H', rt := Q } (L2.start ["leads", "arcs", "load", "start", "found", "line", "here", "at", "way", "there"] vs) H := by
  obtain ⟨⟨n, as, l, s⟩, v1, v2, v3, v4, G, e, rfl, d1, d2, d3, d4, i⟩ := SP.in4 h (fun _ => rfl) ["leads", "arcs", "load", "start", "found", "line", "here", "at", "way", "there"] (by decide)
  obtain ⟨ok, hl, hs⟩ := i.pre
  have ok : NetOk n as := ok
  have hl : l.length = as.length := hl
  have hs : s < n := hs
  have n1 := ok.n1
  let F (fs : FM.Fs) (h : Nat) (c7 c8 c9 : Cell) : Fm := [Cell.p v1 (leadsD n as), Cell.p v2 (arcsD as), Cell.p v3 (intsT l), Cell.p v4 (iD s), .m (fsK fs), .l ((FM.keys fs).map iD), .d (iD h), c7, c8, c9]
  refine q_come i.S rfl (by decide) (x := .none) fun σ1 G1 H1 _ S1 => ?_
  have S1 : Sd e (F [(s, none)] 0 .no .no .no) G1 H1 σ1 := S1
  refine q_while S1 (fun m δ => ∃ dep fs h c7 c8 c9, δ = F fs h c7 c8 c9 ∧ FM.BI n as l s dep fs h (fun _ _ _ => False) ∧ m = n - h) (n - 0) ⟨_, _, 0, _, _, _, rfl, FM.BI.start hs, rfl⟩ fun e1 sb m δ1 σ2 G2 H2 hW S2 => ?_
  obtain ⟨dep, fs, h, c7, c8, c9, rfl, B, rfl⟩ := hW
  refine ⟨decide (h < fs.length), eb_T (ER.is (ed_lt (ed_var rfl) (ed_lenO rfl rfl)) ?_), fun hb G3 H3 S3 => ?_, fun hb G3 H3 _ S3 => ?_⟩
  · congr 1
    rw [decide_eq_decide]
    simp [FM.keys]
  · have hb := of_decide_eq_true hb
    have hfn := B.length
    obtain ⟨⟨u, o⟩, hu⟩ : ∃ p, fs[h]? = some p := ⟨_, List.getElem?_eq_getElem hb⟩
    have hun : u < n := B.lt u (FM.mem_keys hu)
    have e5 : ((FM.keys fs).map iD)[h]? = some (iD u) := by
      rw [List.getElem?_map]
      show ((fs.map (·.1))[h]?).map iD = _
      rw [List.getElem?_map, hu]; rfl
    let L := FM.leadsFrom 0 as u
    refine q_forD (items := L.map leadD) S3 (it_seq (ed_ix (n := u) (ed_var rfl) (ed_ixO (n := h) rfl (ed_var rfl) e5) .t (get_range (f := rowD as) hun)) .t)
      (fun j δ => ∃ dep fs c7 c8 c9, δ = F fs h c7 c8 c9 ∧ FM.BI n as l s dep fs h (fun i f v => (i, f, v) ∈ L.take j) ∧ fs[h]? = some (u, o))
      ⟨dep, fs, c7, c8, c9, rfl, B.weak fun u' o' i f v _ z => by simp at z, hu⟩ (fun e2 sb2 j d δ1 σ3 G4 H4 hd hP S4 => ?_) fun δn σn Gn Hn hP _ S4 => ?_
    · obtain ⟨dep, fs, c7, c8, c9, rfl, B, hu⟩ := hP
      rw [List.getElem?_map] at hd
      obtain ⟨⟨k, f, v⟩, hk, rfl⟩ := Option.map_eq_some_iff.mp hd
      have hm : (k, f, v) ∈ FM.leadsFrom 0 as u := List.mem_of_getElem? hk
      obtain ⟨lv, lk⟩ := FM.leads_lt ok.wf hm
      have ha : as[k]? = some as[k] := List.getElem?_eq_getElem lk
      have hx : l[k]? = some (l[k]'(by omega)) := List.getElem?_eq_getElem (by omega)
      have ri := res_iff (l := l) hm ha hx
      generalize as[k] = a at ha ri
      generalize l[k]'(by omega) = x at hx ri
      have done' : ∀ {dep' fs'}, FM.BI n as l s dep' fs' h (fun i f' v' => (i, f', v') ∈ L.take j ∨ (i = k ∧ f' = f ∧ v' = v)) → FM.BI n as l s dep' fs' h (fun i f v => (i, f, v) ∈ L.take (j + 1)) := fun B' => B'.weak fun u' o' i f' v' hu' hd' r => by
        rw [take_snoc hk] at hd'
        refine B'.cur u' o' i f' v' hu' ?_ r
        rcases List.mem_append.mp hd' with z | z
        · exact .inl z
        · refine .inr ?_
          simpa using z
      have fl := B.length
      refine ⟨_, _, ga_three, fun σ4 G5 H5 S5 => ?_⟩
      have S5 : Sd e2 (F fs h (.d (iD k)) (.d (.int (wayI f))) (.d (iD v))) G5 H5 σ4 := S5
      refine s_ifB (b := !decide (v ∈ FM.keys fs) && !decide (FM.lft a x f = some 0)) S5 (eb_and (eb_B (ER.is (ed_notInM (x := (v : Int)) (ed_var rfl) rfl) (by rw [look_keys]))) fun _ => eb_B (ed_call ⟨as, l, k, f⟩ (ea_c (ed_var rfl) (ea_c (ed_var rfl) (ea_c (ed_var rfl) (ea_c (ed_var rfl) ea_nil)))) ⟨hl, lk⟩ rfl fun d ⟨a', x', k1, k2, k3⟩ => by
        rw [show as[k]? = some a' from k1] at ha
        rw [show l[k]? = some x' from k2] at hx
        cases ha; cases hx
        exact k3)) (fun z G6 H6 _ S6 => ?_) fun z G6 H6 _ S6 => ?_
      · simp only [Bool.and_eq_true, Bool.not_eq_true', decide_eq_false_iff_not] at z
        refine q_dput (R := fun d => d = stepD (k, f)) (x := (v : Int)) S6 rfl (ed_tup (ea_c (ed_var rfl) (ea_c (ed_var rfl) ea_nil)) (show 2 ≤ 1000000 by decide)) (ed_var rfl) ?_ (by show (fs.map _).length < _; rw [List.length_map]; omega) fun d G7 H7 rd _ S7 => ?_
        · have := look_keys (fs := fs) (v := v)
          rw [decide_eq_false z.1] at this
          exact Option.isSome_eq_false_iff.mp this |> fun q => by simpa using q
        subst rd
        refine s_app (R := fun d => d = iD v) S7 rfl (ed_var rfl) (by show ((fs.map _).map _).length < _; rw [List.length_map, List.length_map]; omega) fun d G8 H8 rd _ S8 => ?_
        subst rd
        refine ⟨_, G8, ⟨_, fs ++ [(v, some (k, f))], .d (iD k), .d (.int (wayI f)), .d (iD v), rfl, done' (B.add hu z.1 lv (ri.mpr z.2)), ?_⟩, ?_⟩
        · rw [List.getElem?_append_left (List.getElem?_eq_some_iff.mp hu).1]; exact hu
        · have e1 : fsK fs ++ [(.int v, stepD (k, f))] = fsK (fs ++ [(v, some (k, f))]) := by unfold fsK; rw [List.map_append]; rfl
          have q2 : (FM.keys fs).map iD ++ [iD v] = (FM.keys (fs ++ [(v, some (k, f))])).map iD := by unfold FM.keys; rw [List.map_append, List.map_append]; rfl
          have z := S8
          rw [q2] at z
          have z : Sd e2 (F fs h (.d (iD k)) (.d (.int (wayI f))) (.d (iD v)) |>.set 4 (.m (fsK fs ++ [(.int v, stepD (k, f))])) |>.set 5 (.l ((FM.keys (fs ++ [(v, some (k, f))])).map iD))) G8 H8 σ4 := z
          rw [e1] at z
          exact z
      · refine ⟨_, G6, ⟨dep, fs, .d (iD k), .d (.int (wayI f)), .d (iD v), rfl, done' (B.skip fun u' o' hu' => ?_), hu⟩, S6⟩
        rw [hu] at hu'; cases hu'
        by_cases q : v ∈ FM.keys fs
        · exact .inl q
        · refine .inr fun r => ?_
          have := ri.mp r
          simp [q, this] at z
    · obtain ⟨dep, fs, c7, c8, c9, rfl, B, hu⟩ := hP
      have hlt := (List.getElem?_eq_some_iff.mp hu).1
      have fl := B.length
      refine s_augN (x := (h : Int)) (y := 1) S4 rfl ed_int fun v G5 H5 _ S5 => ⟨_, G5, ⟨n - (h + 1), by omega, dep, fs, h + 1, c7, c8, c9, rfl, B.next fun u' o' i f v' hu' r => ?_, rfl⟩, S5⟩
      rw [hu] at hu'; cases hu'
      rw [List.length_map]; rw [List.take_length]
      exact FM.res_leads r
  · have hb := of_decide_eq_false hb
    exact s_retM S3 rfl i.nb (i.rt rfl) ⟨dep, fs, B.done_ (by omega), rfl⟩
end
end DL
namespace DL
open PySem L2
section
variable {e : Ent} {δ : Fm} {te ta tb : TE} {tt : TT} {tr : TA} {tb' : TS} {t1 t2 : TS} {d : PyData} {K : PySem.W.Frag} {D : L2.Ends} {σ : L2.St} {G H : Hp} {E : XK} {C : Addr} {w : V} {Ra : PyData → Prop}
theorem el_listDR {P : List (PyData × PyData) → Prop} (h : ER e ta δ fun d => ∃ kvs, d = .dict kvs ∧ P kvs) : EL e (tCB rListD (tCons ta tNil)) δ (fun xs => ∃ kvs, P kvs ∧ xs = kvs.map (·.1)) :=
  el_cb (Rs := fun ds => ∃ kvs, ds = [.dict kvs] ∧ P kvs) (ea_cons h ea_nil fun d ds ⟨kvs, q1, q2⟩ q3 => ⟨kvs, by rw [q1, q3], q2⟩) fun _ ⟨kvs, q, hp⟩ G H vs Q s hv k => by
    subst q
    cases hv with
    | cons h1 h2 =>
      cases h2
      cases h1 with
      | dic f q => exact ⟨_, _, rfl, s _ _ f, fun p hq => k _ _ p ⟨kvs, hp, rfl⟩ (keys_int q) hq⟩
theorem el_sortedR {P : List Int → Prop} (h : ER e ta δ fun d => ∃ ns : List Int, d = .list (ns.map PyData.int) ∧ P ns) : EL e (tCB (rSortedI K) (tCons ta tNil)) δ (fun xs => ∃ ms ns : List Int, P ns ∧ xs = ms.map PyData.int ∧ ms.Perm ns ∧ ms.Pairwise (· ≤ ·)) :=
  el_cb (Rs := fun ds => ∃ ns : List Int, ds = [.list (ns.map PyData.int)] ∧ P ns) (ea_cons h ea_nil fun d ds ⟨kvs, q1, q2⟩ q3 => ⟨kvs, by rw [q1, q3], q2⟩) fun _ ⟨ns, q, hp⟩ G H vs Q s hv k => by
    subst q
    cases hv with
    | cons h1 h2 =>
      cases h2
      cases h1 with
      | lst f q =>
        have := q.ints
        subst this
        exact ⟨_, ns, rfl, SqL.of (s _ _ f), fun ms p h1 h2 hp' => k _ _ p ⟨ms, ns, hp, rfl, h1, h2⟩ (DgAll.ofInts ms) hp'⟩
def XA (e : Ent) (ta : TA) (δ : Fm) (C : Addr) (E : XK) (w : V) : Prop := ∀ σ G H (Q : List V → Hp → Prop), Sd e δ G H σ → (∀ dx G' H', Go e δ σ G H G' H' → H dx = none → H' dx = some (.xd [("at", w)]) → E (.ref C) (some dx) H') → ta σ H Q
theorem xa_here (h : XR e te δ C E w) : XA e (tCons te tr) δ C E w := fun σ G H Q S q => h σ G H _ S q
theorem xa_next (h : ER e te δ Ra) (hx : XA e tr δ C E w) : XA e (tCons te tr) δ C E w := fun σ G H Q S q => h σ G H _ S fun d v G1 H1 r1 g1 _ => hx σ G1 H1 _ g1.s fun dx G' H' g2 hn hd => q dx G' H' (g1.trans g2) (g1.back hn) hd
theorem xr_callA {sp : Sp} {dvs : List V} {E' : XK} (h : XA e tr δ C E w) : XR e (tCall sp dvs E' tr) δ C E w := fun σ G H Q S q => h σ G H _ S q
end
theorem sorted_asc {n : Nat} {S : Nat → Bool} {L : List Nat} {ms : List Int} (nd : L.Nodup) (hL : ∀ v, v ∈ L ↔ v < n ∧ S v = true) (hp : ms.Perm (L.map fun v : Nat => (v : Int))) (hs : ms.Pairwise (· ≤ ·)) : ms.map PyData.int = (FM.asc n S).map iD := by
  have an : (FM.asc n S).Nodup := by
    unfold FM.asc
    exact List.Nodup.sublist List.filter_sublist List.nodup_range
  have pw : (FM.asc n S).Pairwise (· < ·) := by
    unfold FM.asc
    exact List.Pairwise.sublist List.filter_sublist List.pairwise_lt_range
  have p1 : L.Perm (FM.asc n S) := (List.perm_ext_iff_of_nodup nd an).mpr fun v => by rw [hL, FM.mem_asc]
  have p2 : ms.Perm ((FM.asc n S).map fun v : Nat => (v : Int)) := hp.trans (p1.map _)
  have e1 : ms = (FM.asc n S).map fun v : Nat => (v : Int) := List.Perm.eq_of_pairwise (le := fun a b : Int => a ≤ b) (fun a b _ _ h1 h2 => by omega) hs (List.pairwise_map.mpr (pw.imp fun h => by omega)) p2
  rw [e1, List.map_map]; rfl
section
variable {K : PySem.W.Frag} {C : Addr} {E : XK} {vs : List V} {H : Hp} {Q : VK}
theorem fs_keys (fs : FM.Fs) : (fsK fs).map (·.1) = ((FM.keys fs).map fun v : Nat => (v : Int)).map PyData.int := by
  unfold fsK FM.keys
  rw [List.map_map, List.map_map, List.map_map]; rfl
/-- the nodes that come by, in order -/
theorem er_come {e : Ent} {δ : Fm} {n : Nat} {as : List FM.Arc} {l : List Int} {s i0 i1 i2 i3 : Nat} (ok : NetOk n as) (hl : l.length = as.length) (hs : s < n) (h0 : (δ[i0]?).bind cellD = some (iD n)) (h1 : (δ[i1]?).bind cellD = some (arcsD as)) (h2 : (δ[i2]?).bind cellD = some (intsT l)) (h3 : (δ[i3]?).bind cellD = some (iD s)) :
    ER e (tCall (sp_come_by C) [] E0 (tCons (tCall (sp_leads_of C) [] E0 (tCons (tVar i0) (tCons (tVar i1) tNil))) (tCons (tVar i1) (tCons (tVar i2) (tCons (tVar i3) tNil))))) δ fun d => ∃ kvs, d = .dict kvs ∧ ∃ dep fs, FM.Bfs n as l s dep fs ∧ kvs = fsK fs :=
  ed_call ⟨n, as, l, s⟩ (ea_c (ed_call (n, as) (ea_c (ed_var h0) (ea_c (ed_var h1) ea_nil)) ok rfl fun d q => q) (ea_c (ed_var h1) (ea_c (ed_var h2) (ea_c (ed_var h3) ea_nil)))) ⟨ok, hl, hs⟩ rfl fun d ⟨dep, fs, B, q⟩ => ⟨_, q, dep, fs, B, rfl⟩
theorem ed_come {e : Ent} {δ : Fm} {n : Nat} {as : List FM.Arc} {l : List Int} {s i0 i1 i2 i3 : Nat} (ok : NetOk n as) (hl : l.length = as.length) (hs : s < n) (h0 : (δ[i0]?).bind cellD = some (iD n)) (h1 : (δ[i1]?).bind cellD = some (arcsD as)) (h2 : (δ[i2]?).bind cellD = some (intsT l)) (h3 : (δ[i3]?).bind cellD = some (iD s)) :
    ED e (tCB (rTupOf K) (tCons (tCB (rSortedI K) (tCons (tCB rListD (tCons (tCall (sp_come_by C) [] E0 (tCons (tCall (sp_leads_of C) [] E0 (tCons (tVar i0) (tCons (tVar i1) tNil))) (tCons (tVar i1) (tCons (tVar i2) (tCons (tVar i3) tNil))))) tNil)) tNil)) tNil)) δ (nodesT (FM.asc n (FM.rset as l s))) := by
  refine ER.mono (ed_tupOf rfl (el_sortedR (P := fun ns => ∃ dep fs, FM.Bfs n as l s dep fs ∧ ns = (FM.keys fs).map fun v : Nat => (v : Int)) (ER.mono (el_er (R := fun d => ∃ kvs, (∃ dep fs, FM.Bfs n as l s dep fs ∧ kvs = fsK fs) ∧ d = .list (kvs.map (·.1))) (el_listDR (er_come ok hl hs h0 h1 h2 h3)) fun xs ⟨kvs, q1, q2⟩ => ⟨kvs, q1, by rw [q2]⟩) fun d ⟨kvs, ⟨dep, fs, B, q1⟩, q2⟩ => ⟨_, by rw [q2, q1, fs_keys], dep, fs, B, rfl⟩))) fun d ⟨xs, ⟨ms, ns, ⟨dep, fs, B, q1⟩, q2, q3, q4⟩, q5⟩ => ?_
  subst q1
  rw [q5, q2]
  show PyData.tuple _ = PyData.tuple _
  congr 1
  exact sorted_asc B.nd (fun v => ⟨fun hv => ⟨B.lev.lt v hv, FM.rset_iff.mpr (B.mem.mp hv)⟩, fun ⟨_, hv⟩ => B.mem.mpr (FM.rset_iff.mp hv)⟩) q3 q4
theorem pu_reached (h : sp_reached C vs H Q E) : t_reached K C E { nx := fun _ H' => Q .non H', rt := Q } (L2.start ["net", "flow", "start", "many", "arcs", "load"] vs) H := by
  obtain ⟨⟨x, n, as, b, l, s, t⟩, v1, v2, v3, G, e, rfl, d1, d2, d3, i⟩ := SP.in3 h (fun _ => rfl) ["net", "flow", "start", "many", "arcs", "load"] (by decide)
  obtain ⟨sz, hn, hs, hb⟩ := i.pre
  have sz : NetSz x := sz
  have hn : netOf x = some (n, as) := hn
  have hs : s < n := hs
  have hb : FM.Borne as l := hb
  have ok := netOf_ok hn sz
  refine q_net i.S rfl hn sz fun σ1 G1 H1 _ S1 => ?_
  refine q_set (d := intsT l) S1 (ed_call ⟨n, as, b, l⟩ (ea_c (ed_var rfl) (ea_c (ed_var rfl) ea_nil)) ⟨ok.sz, hb⟩ rfl fun d q => q) fun v G2 H2 _ _ S2 => ?_
  refine q_drop (R := fun _ => True) S2 (ed_call (n, iD s) (ea_c (ed_var rfl) (ea_c (ed_var rfl) ea_nil)) trivial (by show badNode n (iD s) = none; unfold badNode; rw [nd_of hs]; rfl) fun _ _ => trivial) fun G3 H3 _ S3 => ?_
  exact s_out S3 (ed_come ok hb.len hs rfl rfl rfl rfl) (i.rt rfl) fun d q => q
theorem turn_ok {n : Nat} {as : List FM.Arc} (ok : NetOk n as) : NetOk n (FM.turn as) := ⟨ok.n0, ok.n1, FM.turn_wf ok.wf, by unfold FM.turn; rw [List.length_map]; exact ok.sz⟩
theorem pu_reaching (h : sp_reaching C vs H Q E) : t_reaching K C E { nx := fun _ H' => Q .non H', rt := Q } (L2.start ["net", "flow", "goal", "many", "arcs", "load", "turned", "arc"] vs) H := by
  obtain ⟨⟨x, n, as, b, l, s, t⟩, v1, v2, v3, G, e, rfl, d1, d2, d3, i⟩ := SP.in3 h (fun _ => rfl) ["net", "flow", "goal", "many", "arcs", "load", "turned", "arc"] (by decide)
  obtain ⟨sz, hn, ht, hb⟩ := i.pre
  have sz : NetSz x := sz
  have hn : netOf x = some (n, as) := hn
  have ht : t < n := ht
  have hb : FM.Borne as l := hb
  have ok := netOf_ok hn sz
  have osz := ok.sz
  refine q_net i.S rfl hn sz fun σ1 G1 H1 _ S1 => ?_
  refine q_set (d := intsT l) S1 (ed_call ⟨n, as, b, l⟩ (ea_c (ed_var rfl) (ea_c (ed_var rfl) ea_nil)) ⟨ok.sz, hb⟩ rfl fun d q => q) fun v G2 H2 _ _ S2 => ?_
  refine q_drop (R := fun _ => True) S2 (ed_call (n, iD t) (ea_c (ed_var rfl) (ea_c (ed_var rfl) ea_nil)) trivial (by show badNode n (iD t) = none; unfold badNode; rw [nd_of ht]; rfl) fun _ _ => trivial) fun G3 H3 _ S3 => ?_
  let δ : Fm := [Cell.p v1 x, Cell.p v2 (sqD b (l.map PyData.int)), Cell.p v3 (iD t), .d (iD n), .d (arcsD as), .d (intsT l), .no, .no]
  refine q_set (d := arcsD (FM.turn as)) S3 (ER.is (ed_tupleOf rfl (el_ed (el_map (xs := as) (enc := arcD) (f := fun a => .tuple [iD a.hd, iD a.tl, optD a.mo]) (δ' := fun a => δ.set 7 (.d (arcD a))) (it_seq (ed_var rfl) .t) (by simp) rfl (fun p _ => ga_name) (fun _ _ => rfl) (fun a _ => ed_tup (ea_c (ed_ix (n := 1) (ed_var rfl) ed_int .t rfl) (ea_c (ed_ix (n := 0) (ed_var rfl) ed_int .t rfl) (ea_c (ed_ix (n := 2) (ed_var rfl) ed_int .t rfl) ea_nil))) (show 3 ≤ 1000000 by decide)) (by omega))) .l) (by unfold arcsD FM.turn; rw [List.map_map]; rfl)) fun v4 G4 H4 _ _ S4 => ?_
  exact s_out S4 (ed_come (turn_ok ok) (by unfold FM.turn; rw [List.length_map]; exact hb.len) ht rfl rfl rfl rfl) (i.rt rfl) fun d q => q
theorem pu_walk (h : sp_walk C vs H Q E) : t_walk K C E { nx := fun _ H' => Q .non H', rt := Q } (L2.start ["net", "flow", "start", "ends", "many", "arcs", "load", "goals", "found", "some", "node"] vs) H := by
  obtain ⟨⟨⟨x, n, as, b, l, s, t⟩, b2⟩, v1, v2, v3, v4, G, e, rfl, d1, d2, d3, d4, i⟩ := SP.in4 h (fun _ => rfl) ["net", "flow", "start", "ends", "many", "arcs", "load", "goals", "found", "some", "node"] (by decide)
  obtain ⟨sz, hn, hs, ht, hne, hb⟩ := i.pre
  have sz : NetSz x := sz
  have hn : netOf x = some (n, as) := hn
  have hs : s < n := hs
  have ht : t < n := ht
  have hne : s ≠ t := hne
  have hb : FM.Borne as l := hb
  have ok := netOf_ok hn sz
  refine q_net i.S rfl hn sz fun σ1 G1 H1 _ S1 => ?_
  refine q_set (d := intsT l) S1 (ed_call ⟨n, as, b, l⟩ (ea_c (ed_var rfl) (ea_c (ed_var rfl) ea_nil)) ⟨ok.sz, hb⟩ rfl fun d q => q) fun v G2 H2 _ _ S2 => ?_
  refine q_set (d := nodesT [t]) S2 (ed_call ⟨n, s, b2, [t]⟩ (ea_c (ed_var rfl) (ea_c (ed_var rfl) (ea_c (ed_var rfl) ea_nil))) ⟨hs, by simp; exact ⟨ht, Ne.symm hne⟩, by simp, by simp⟩ rfl fun d q => q) fun v5 G3 H3 _ _ S3 => ?_
  refine q_asg S3 (er_come ok hb.len hs rfl rfl rfl rfl) fun d v6 G4 H4 ⟨kvs, q1, dep, fs, B, q2⟩ _ _ S4 => ?_
  subst q2
  subst q1
  let δ : Fm := [Cell.p v1 x, Cell.p v2 (sqD b (l.map PyData.int)), Cell.p v3 (iD s), Cell.p v4 (sqD b2 [iD t]), .d (iD n), .d (arcsD as), .d (intsT l), .d (nodesT [t]), .d (.dict (fsK fs)), .no, .no]
  have S4 : Sd e δ G4 H4 _ := S4
  have el : ELD e (tLc (iSeq K (tVar 7)) (gName 10) (tB (tDIn (tVar 10) (tVar 8))) (tVar 10) [10]) δ (([t].filter fun v => decide (v ∈ FM.keys fs)).map iD) := el_lc (xs := [t]) (enc := iD) (δ' := fun v => δ.set 10 (.d (iD v))) (it_seq (ed_var rfl) .t) (by simp) rfl (fun p _ => ga_name) (fun _ _ => rfl) (fun v _ => eb_B (ER.is (ed_inD (x := (v : Int)) (ed_var rfl) (ed_var rfl)) (by rw [look_keys]))) (fun v _ _ => ed_var rfl) (by simp)
  refine q_set S4 (el_ed el) fun v7 G5 H5 _ _ S5 => ?_
  by_cases hk : t ∈ FM.keys fs
  · have e1 : ([t].filter fun v => decide (v ∈ FM.keys fs)).map iD = [iD t] := by simp [hk]
    rw [e1] at S5
    refine s_out (Ra := fun d => isNone d = false) S5 (ed_if (b := true) (eb_T (ER.is (ed_gt (ed_len rfl (ed_var rfl) .l) ed_int) rfl)) (fun _ => ed_call ⟨n, as, l, s, dep, fs, t⟩ (ea_c (ed_var rfl) (ea_c (ed_var rfl) (ea_c (ed_ix (n := 0) (ed_var rfl) ed_int .l rfl) ea_nil))) ⟨ok, B, hk⟩ rfl fun d ⟨st, _, q⟩ => by rw [q]; rfl) fun z => nomatch z) (i.rt rfl) fun d q => ?_
    show isNone d = true ↔ _
    rw [q]
    exact ⟨fun z => (nomatch z), fun z => absurd (B.mem.mp hk) z⟩
  · have e1 : ([t].filter fun v => decide (v ∈ FM.keys fs)).map iD = [] := by simp [hk]
    rw [e1] at S5
    refine s_out (Ra := fun d => isNone d = true) S5 (ed_if (b := false) (eb_T (ER.is (ed_gt (ed_len rfl (ed_var rfl) .l) ed_int) rfl)) (fun z => nomatch z) fun _ => ER.to ed_non rfl) (i.rt rfl) fun d q => ?_
    show isNone d = true ↔ _
    exact ⟨fun _ z => hk (B.mem.mpr z), fun _ => q⟩
theorem pu_led_by (h : sp_led_by C vs H Q E) : t_led_by K C E { nx := fun _ H' => Q .non H', rt := Q } (L2.start ["many", "arcs", "start", "goals", "flow", "leads", "told", "found", "some", "steps", "often", "node"] vs) H := by
  obtain ⟨⟨_, n, as, _, l, s, t⟩, v1, v2, v3, v4, v5, G, e, rfl, d1, d2, d3, d4, d5, i⟩ := SP.in5 h (fun _ => rfl) ["many", "arcs", "start", "goals", "flow", "leads", "told", "found", "some", "steps", "often", "node"] (by decide)
  obtain ⟨ok, hs, ht, hne, hf⟩ := i.pre
  have ok : NetOk n as := ok
  have hs : s < n := hs
  have ht : t < n := ht
  have hne : s ≠ t := hne
  have hf : FM.Flow n as s t l := hf
  have osz := ok.sz
  let F (l' : List Int) (fs : FM.Fs) (som : List PyData) (c9 c10 : Cell) : Fm := [Cell.p v1 (iD n), Cell.p v2 (arcsD as), Cell.p v3 (iD s), Cell.p v4 (.tuple [iD t]), Cell.p v5 (intsT l), .d (leadsD n as), .d (intsT l'), .d (.dict (fsK fs)), .d (.list som), c9, c10, .no]
  let so (fs : FM.Fs) : List PyData := ([t].filter fun v => decide (v ∈ FM.keys fs)).map iD
  have ec : ∀ {e2 : Ent} {δ' : Fm} {l' : List Int}, l'.length = as.length → (δ'[5]?).bind cellD = some (leadsD n as) → (δ'[1]?).bind cellD = some (arcsD as) → (δ'[6]?).bind cellD = some (intsT l') → (δ'[2]?).bind cellD = some (iD s) →
      ER e2 (tCall (sp_come_by C) [] E0 (tCons (tVar 5) (tCons (tVar 1) (tCons (tVar 6) (tCons (tVar 2) tNil))))) δ' fun d => ∃ dep fs, FM.Bfs n as l' s dep fs ∧ d = .dict (fsK fs) := fun {e2 δ' l'} hl h5 h1 h6 h2 => ed_call ⟨n, as, l', s⟩ (ea_c (ed_var h5) (ea_c (ed_var h1) (ea_c (ed_var h6) (ea_c (ed_var h2) ea_nil)))) ⟨ok, hl, hs⟩ rfl fun d q => q
  have es : ∀ {e2 : Ent} {δ' : Fm} {fs : FM.Fs}, (δ'[3]?).bind cellD = some (.tuple [iD t]) → (δ'[7]?).bind cellD = some (.dict (fsK fs)) → δ'.length = 12 → (∀ x : Cell, ((δ'.set 11 x)[7]?) = δ'[7]?) → wipeC δ' [11] = δ' → ELD e2 (tLc (iSeq K (tVar 3)) (gName 11) (tB (tDIn (tVar 11) (tVar 7))) (tVar 11) [11]) δ' (so fs) := fun {e2 δ' fs} h3 h7 hl12 hx hw => by
    have hi : ∀ x : Cell, (δ'.set 11 x)[11]? = some x := fun x => List.getElem?_set_self (by omega)
    refine el_lc (xs := [t]) (enc := iD) (δ' := fun v => δ'.set 11 (.d (iD v))) (it_seq (ed_var h3) .t) (by simp) hw (fun p _ => ga_name) (fun v _ => ?_) (fun v _ => eb_B (ER.is (ed_inD (x := (v : Int)) (ed_var (by rw [hi]; rfl)) (ed_var (by rw [hx]; exact h7))) (by rw [look_keys]))) (fun v _ _ => ed_var (by rw [hi]; rfl)) (by simp)
    show ((δ'.set 11 (.d (iD v))).set 11 .no) = δ'
    rw [List.set_set]; exact hw
  refine q_par (Rs := fun ds => ds = [leadsD n as, intsT l]) i.S (ea_c (ed_call (n, as) (ea_c (ed_var rfl) (ea_c (ed_var rfl) ea_nil)) ok rfl fun d q => q) (ea_c (ed_tupleOf rfl (ed_var rfl) .t) ea_nil)) (fun ds q => by rw [q]; rfl) fun x1 x2 w1 w2 G1 H1 q _ S1 => ?_
  cases q
  refine q_asg S1 (ec hf.1.len rfl rfl rfl rfl) fun d v6 G2 H2 ⟨dep, fs, B, q⟩ _ _ S2 => ?_
  subst q
  refine q_set S2 (el_ed (es (fs := fs) rfl rfl rfl (fun _ => rfl) rfl)) fun v7 G3 H3 _ _ S3 => ?_
  have S3 : Sd e (F l fs (so fs) .no .no) G3 H3 _ := S3
  refine q_while S3 (fun m δ => ∃ l' dep fs c9 c10, δ = F l' fs (so fs) c9 c10 ∧ FM.Bfs n as l' s dep fs ∧ FM.Flow n as s t l' ∧ FM.Keeps as s t l l' ∧ m = FM.mu n as s l') _ ⟨l, dep, fs, .no, .no, rfl, B, hf, .refl, rfl⟩ fun e1 sb m δ1 σ2 G4 H4 hW S4 => ?_
  obtain ⟨l', dep, fs, c9, c10, rfl, B, hf', hk, rfl⟩ := hW
  have hl' := hf'.1.len
  refine ⟨decide (t ∈ FM.keys fs), eb_T (ER.is (ed_gt (ed_len rfl (ed_var rfl) .l) ed_int) ?_), fun hb G5 H5 S5 => ?_, fun hb G5 H5 _ S5 => ?_⟩
  · show PyData.bool (decide ((0 : Int) < (so fs).length)) = _
    by_cases z : t ∈ FM.keys fs <;> simp [so, z]
  · have hb := of_decide_eq_true hb
    have e1 : so fs = [iD t] := by simp [so, hb]
    rw [e1] at S5
    refine q_asg S5 (ed_call ⟨n, as, l', s, dep, fs, t⟩ (ea_c (ed_var rfl) (ea_c (ed_var rfl) (ea_c (ed_ix (n := 0) (ed_var rfl) ed_int .l rfl) ea_nil))) ⟨ok, B, hb⟩ rfl fun d q => q) fun d v8 G6 H6 ⟨st, w, q⟩ _ _ S6 => ?_
    subst q
    have w : FM.DWalk as l' dep s st t := w
    have hlt : ∀ q ∈ st, q.1 < as.length := fun q hq => by
      obtain ⟨a', b', ⟨a, x, r1, _⟩, _⟩ := w.each q.1 q.2 hq
      exact (List.getElem?_eq_some_iff.mp r1).1
    have hsz : st.length ≤ 1000 := by
      have hz := FM.nodup_lt_len as.length _ w.nodup fun x hx => by
        obtain ⟨q, hq, rfl⟩ := List.mem_map.mp hx
        exact hlt q hq
      rw [List.length_map] at hz
      omega
    refine q_asg S6 (ed_call (as, l', st) (ea_c (ed_var rfl) (ea_c (ed_var rfl) (ea_c (ed_var rfl) ea_nil))) ⟨hl', hsz, hlt⟩ rfl fun d q => q) fun d v9 G7 H7 ⟨o, ho, q⟩ _ _ S7 => ?_
    subst q
    refine q_if0 (b := isNone (optD o)) S7 (eb_T (ed_isN (ed_var rfl))) (fun z G8 H8 _ S8 => ?_) fun z G8 H8 _ S8 => ?_
    · cases o with
      | some m => cases z
      | none =>
        exact (i.rt rfl).go _ _ G8 H8 _ _ (.inr ⟨w.free .refl fun i f a x h1 h2 h3 => ho i f a x h1 h2 h3, rfl⟩) (sb.back S8) .non
    · cases o with
      | none => cases z
      | some m =>
        obtain ⟨f2, k2, m2⟩ := FM.led_turn ok.wf hf' hk (by rw [hf.1.len, hl']) B w ho
        refine q_set (d := intsT (FM.goneL l' st m)) S8 (ed_call (l', st, m) (ea_c (ed_var rfl) (ea_c (ed_var rfl) (ea_c (ed_var rfl) ea_nil))) ⟨hsz, fun q hq => by rw [hl']; exact hlt q hq⟩ rfl fun d q => q) fun v10 G9 H9 _ _ S9 => ?_
        refine q_asg S9 (ec f2.1.len rfl rfl rfl rfl) fun d v11 G10 H10 ⟨dep2, fs2, B2, q⟩ _ _ S10 => ?_
        subst q
        refine s_asg S10 (el_ed (es (fs := fs2) rfl rfl rfl (fun _ => rfl) rfl)) fun d v12 G11 H11 q _ _ S11 => ?_
        subst q
        exact ⟨_, G11, ⟨_, m2, FM.goneL l' st m, dep2, fs2, .d (stepsD st), .d (optD (some m)), rfl, B2, f2, k2, rfl⟩, S11⟩
  · have hb := of_decide_eq_false hb
    exact s_out S5 (ed_var rfl) (i.rt rfl) fun d q => .inl ⟨l', ⟨ok.wf, hs, ht, hne, hf', fun r => hb (B.mem.mpr r)⟩, hk, q⟩
end
end DL
namespace DL
open PySem L2
theorem zeros_load (k : Nat) : loadOf (intsT (FM.zeros k)) = some (FM.zeros k) := loadOf_of (v := intsT (FM.zeros k)) rfl fun x hx => by
  have := List.eq_of_mem_replicate hx
  omega
theorem badFit_led {x s g v : PyData} (h : badFit x s g v = none) : ∃ n as a b l, netOf x = some (n, as) ∧ ndOf n s = some a ∧ ndOf n g = some b ∧ b ≠ a ∧ loadOf v = some l ∧ FM.Flow n as a b l := by
  rw [badFit_eq] at h
  cases hb : badPair x s g with
  | some k => rw [hb] at h; cases h
  | none =>
    obtain ⟨n, as, a, b, e1, e2, e3, e4, _⟩ := badPair_none hb
    rw [hb, e1] at h
    simp only [e2, e3] at h
    by_cases hf : isFit n as a b v = true
    · obtain ⟨l, hl, f⟩ := isFit_iff.mp hf
      exact ⟨n, as, a, b, l, e1, e2, e3, e4, hl, f⟩
    · rw [if_neg hf] at h; cases h
theorem badFit_le {x s g v : PyData} {k : Nat} (h : badFit x s g v = some k) : k = 0 ∨ k = 1 ∨ k = 2 ∨ k = 3 := by
  rw [badFit_eq] at h
  cases hb : badPair x s g with
  | some j =>
    rw [hb] at h
    have := badPair_le hb
    have h : some j = some k := h
    cases h
    omega
  | none =>
    obtain ⟨n, as, a, b, e1, e2, e3, e4, _⟩ := badPair_none hb
    rw [hb, e1] at h
    simp only [e2, e3] at h
    by_cases hf : isFit n as a b v = true
    · rw [if_pos hf] at h; cases h
    · rw [if_neg hf] at h
      cases h; omega
section
variable {K : PySem.W.Frag} {C : Addr} {E : XK} {vs : List V} {H : Hp} {Q : VK}
theorem pu_led_on (h : sp_led_on C vs H Q E) : t_led_on K C E { nx := fun _ H' => Q .non H', rt := Q } (L2.start ["net", "start", "goal", "flow", "many", "arcs"] vs) H := by
  obtain ⟨⟨x, s, g, v⟩, v1, v2, v3, v4, G, e, rfl, d1, d2, d3, d4, i⟩ := SP.in4 h (fun _ => rfl) ["net", "start", "goal", "flow", "many", "arcs"] (by decide)
  obtain ⟨sz, sx⟩ := i.pre
  have sz : NetSz x := sz
  have sx : VSz v := sx
  cases hn : netOf x with
  | none =>
    have hf : badFit x s g v = some 0 := by unfold badFit; rw [hn]
    exact xq_net i.S rfl hn sz (i.xt 0 v1 hf rfl)
  | some p =>
    obtain ⟨n, as⟩ := p
    have ok := netOf_ok hn sz
    refine q_net i.S rfl hn sz fun σ1 G1 H1 _ S1 => ?_
    cases hf : badFit x s g v with
    | some k =>
      have key : ∀ w, Rai e E C w → EAx e (tCons (tVar 0) (tCons (tVar 1) (tCons (tVar 2) (tCons (tVar 3) tNil)))) ([Cell.p v1 x, Cell.p v2 s, Cell.p v3 g, Cell.p v4 v, .d (iD n), .d (arcsD as)] : Fm) [x, s, g, v] k w → t_led_on K C E { nx := fun _ H' => Q .non H', rt := Q } (L2.start ["net", "start", "goal", "flow", "many", "arcs"] [v1, v2, v3, v4]) H → True := fun _ _ _ _ => trivial
      have fin : ∀ w, Rai e E C w → EAx e (tCons (tVar 0) (tCons (tVar 1) (tCons (tVar 2) (tCons (tVar 3) tNil)))) ([Cell.p v1 x, Cell.p v2 s, Cell.p v3 g, Cell.p v4 v, .d (iD n), .d (arcsD as)] : Fm) [x, s, g, v] k w →
          tRet (tCall (sp_led_by C) [] E0 (tCons (tVar 4) (tCons (tVar 5) (tCons (tVar 1) (tCons (tTup (tCons (tVar 2) tNil)) (tCons (tCall (sp_need_fit C) [] E (tCons (tVar 0) (tCons (tVar 1) (tCons (tVar 2) (tCons (tVar 3) tNil))))) tNil)))))) { nx := fun _ H' => Q .non H', rt := Q } σ1 H1 := fun w r ea =>
        xr_ret S1 (xr_callA (xa_next (ed_var rfl) (xa_next (ed_var rfl) (xa_next (ed_var rfl) (xa_next (ed_tup (ea_c (ed_var rfl) ea_nil) (show 1 ≤ 1000000 by decide)) (xa_here (xr_call ⟨x, s, g, v⟩ ea ⟨sz, sx⟩ hf))))))) r
      rcases badFit_le hf with rfl | rfl | rfl | rfl
      · exact fin v1 (i.xt 0 v1 hf rfl) (eax_here rfl (ea_c (ed_var rfl) (ea_c (ed_var rfl) (ea_c (ed_var rfl) ea_nil))))
      · exact fin v2 (i.xt 1 v2 hf rfl) (eax_next (ed_var rfl) (eax_here rfl (ea_c (ed_var rfl) (ea_c (ed_var rfl) ea_nil))))
      · exact fin v3 (i.xt 2 v3 hf rfl) (eax_next (ed_var rfl) (eax_next (ed_var rfl) (eax_here rfl (ea_c (ed_var rfl) ea_nil))))
      · exact fin v4 (i.xt 3 v4 hf rfl) (eax_next (ed_var rfl) (eax_next (ed_var rfl) (eax_next (ed_var rfl) (eax_here rfl ea_nil))))
    | none =>
      obtain ⟨n', as', a, b, l, e1, e2, e3, e4, e5, e6⟩ := badFit_led hf
      rw [hn] at e1
      cases e1
      obtain ⟨es, la⟩ := nd_some e2
      obtain ⟨eg, lb⟩ := nd_some e3
      subst es eg
      exact s_out (Ra := LedR n as a b l) S1 (ed_call ⟨x, n, as, false, l, a, b⟩ (ea_c (ed_var rfl) (ea_c (ed_var rfl) (ea_c (ed_var rfl) (ea_c (ed_tup (ea_c (ed_var rfl) ea_nil) (show 1 ≤ 1000000 by decide)) (ea_c (d := intsT l) (ed_call ⟨x, iD a, iD b, v⟩ (ea_c (ed_var rfl) (ea_c (ed_var rfl) (ea_c (ed_var rfl) (ea_c (ed_var rfl) ea_nil)))) ⟨sz, sx⟩ hf fun d ⟨l', k1, k2⟩ => by
        rw [show loadOf v = some l' from k1] at e5
        cases e5
        exact k2) ea_nil))))) ⟨ok, la, lb, Ne.symm e4, e6⟩ rfl fun d q => q) (i.rt hf) fun d q => ⟨n, as, a, b, l, hn, e2, e3, e5, q⟩
theorem pu_greatest (h : sp_greatest C vs H Q E) : t_greatest K C E { nx := fun _ H' => Q .non H', rt := Q } (L2.start ["net", "start", "goal"] vs) H := by
  obtain ⟨⟨x, s, g⟩, v1, v2, v3, G, e, rfl, d1, d2, d3, i⟩ := SP.in3 h (fun _ => rfl) ["net", "start", "goal"] (by decide)
  have sz : NetSz x := i.pre
  let δ : Fm := [Cell.p v1 x, Cell.p v2 s, Cell.p v3 g]
  cases hn : netOf x with
  | none =>
    have hf : badPair x s g = some 0 := by unfold badPair; rw [hn]
    exact xr_ret i.S (xr_callA (xa_next (ed_var rfl) (xa_next (ed_var rfl) (xa_next (ed_var rfl) (xa_here (xr_call x (eax_here rfl ea_nil) sz (by unfold badNet; rw [hn]; rfl))))))) (i.xt 0 v1 hf rfl)
  | some p =>
    obtain ⟨n, as⟩ := p
    have ok := netOf_ok hn sz
    have zs : VSz (intsT (FM.zeros as.length)) := VSz.ints (b := false) (by have := ok.sz; simp [FM.zeros]; omega)
    have e0 : ED e (tCall (sp_no_flow C) [] E (tCons (tVar 0) tNil)) δ (intsT (FM.zeros as.length)) := ed_call x (ea_c (ed_var rfl) ea_nil) sz (by unfold badNet; rw [hn]; rfl) fun d ⟨n', as', k1, k2⟩ => by
      rw [hn] at k1; cases k1; exact k2
    have hff := badFit_eq x s g (intsT (FM.zeros as.length))
    cases hb : badPair x s g with
    | some k =>
      rw [hb] at hff
      have hff : badFit x s g (intsT (FM.zeros as.length)) = some k := hff
      rcases badPair_le hb with rfl | rfl | rfl
      · exact xr_ret i.S (xr_call ⟨x, s, g, intsT (FM.zeros as.length)⟩ (eax_here rfl (ea_c (ed_var rfl) (ea_c (ed_var rfl) (ea_c e0 ea_nil)))) ⟨sz, zs⟩ hff) (i.xt 0 v1 hb rfl)
      · exact xr_ret i.S (xr_call ⟨x, s, g, intsT (FM.zeros as.length)⟩ (eax_next (ed_var rfl) (eax_here rfl (ea_c (ed_var rfl) (ea_c e0 ea_nil)))) ⟨sz, zs⟩ hff) (i.xt 1 v2 hb rfl)
      · exact xr_ret i.S (xr_call ⟨x, s, g, intsT (FM.zeros as.length)⟩ (eax_next (ed_var rfl) (eax_next (ed_var rfl) (eax_here rfl (ea_c e0 ea_nil)))) ⟨sz, zs⟩ hff) (i.xt 2 v3 hb rfl)
    | none =>
      obtain ⟨n', as', a, b, e1, e2, e3, e4, _⟩ := badPair_none hb
      rw [hn] at e1
      cases e1
      rw [hb, hn] at hff
      simp only [e2, e3] at hff
      rw [if_pos (isFit_iff.mpr ⟨_, zeros_load _, FM.zero_flow ok.wf⟩)] at hff
      exact s_out (Ra := fun d => LedR n as a b (FM.zeros as.length) d) i.S (ed_call ⟨x, s, g, intsT (FM.zeros as.length)⟩ (ea_c (ed_var rfl) (ea_c (ed_var rfl) (ea_c (ed_var rfl) (ea_c e0 ea_nil)))) ⟨sz, zs⟩ hff fun d ⟨n', as', a', b', l', k1, k2, k3, k4, k5⟩ => by
        rw [hn] at k1; cases k1
        rw [e2] at k2; cases k2
        rw [e3] at k3; cases k3
        have := (zeros_load as.length).symm.trans k4
        cases this
        exact k5) (i.rt hb) fun d q => ⟨n, as, a, b, hn, e2, e3, q⟩
theorem pu_cuts (h : sp_cuts C vs H Q E) : t_cuts K C E { nx := fun _ H' => Q .non H', rt := Q } (L2.start ["net", "start", "goal", "flow", "late", "node"] vs) H := by
  obtain ⟨⟨x, s, g⟩, v1, v2, v3, G, e, rfl, d1, d2, d3, i⟩ := SP.in3 h (fun _ => rfl) ["net", "start", "goal", "flow", "late", "node"] (by decide)
  have sz : NetSz x := i.pre
  cases hb : badPair x s g with
  | some k =>
    rcases badPair_le hb with rfl | rfl | rfl
    · exact xq_asg i.S (xr_call ⟨x, s, g⟩ (eax_here rfl (ea_c (ed_var rfl) (ea_c (ed_var rfl) ea_nil))) sz hb) (i.xt 0 v1 hb rfl)
    · exact xq_asg i.S (xr_call ⟨x, s, g⟩ (eax_next (ed_var rfl) (eax_here rfl (ea_c (ed_var rfl) ea_nil))) sz hb) (i.xt 1 v2 hb rfl)
    · exact xq_asg i.S (xr_call ⟨x, s, g⟩ (eax_next (ed_var rfl) (eax_next (ed_var rfl) (eax_here rfl ea_nil))) sz hb) (i.xt 2 v3 hb rfl)
  | none =>
    obtain ⟨n, as, a, b, e1, e2, e3, e4, _⟩ := badPair_none hb
    have ok := netOf_ok e1 sz
    have n1 := ok.n1
    obtain ⟨es, la⟩ := nd_some e2
    obtain ⟨eg, lb⟩ := nd_some e3
    subst es eg
    refine q_asg (R := LedR n as a b (FM.zeros as.length)) i.S (ed_call ⟨x, iD a, iD b⟩ (ea_c (ed_var rfl) (ea_c (ed_var rfl) (ea_c (ed_var rfl) ea_nil))) sz hb fun d ⟨n', as', a', b', k1, k2, k3, k4⟩ => by
      have q1 := (show netOf x = some (n', as') from k1).symm.trans e1
      cases q1
      have q2 := (show ndOf n (iD a) = some a' from k2).symm.trans e2
      cases q2
      have q3 := (show ndOf n (iD b) = some b' from k3).symm.trans e3
      cases q3
      exact k4) fun d v4 G1 H1 hl _ _ S1 => ?_
    refine q_if0 (b := isNone d) S1 (eb_T (ed_isN (ed_var rfl))) (fun z G2 H2 _ S2 => ?_) fun z G2 H2 _ S2 => ?_
    · refine s_out S2 ed_non (i.rt hb) fun d' q => ⟨n, as, a, b, e1, e2, e3, ?_⟩
      rcases hl with ⟨l', _, _, q'⟩ | ⟨f, _⟩
      · subst q'; cases z
      · exact .inr ⟨f, q⟩
    · rcases hl with ⟨l', B, _, q'⟩ | ⟨_, q'⟩
      · subst q'
        refine q_set (d := nodesT (FM.asc n (FM.rset (FM.turn as) l' b))) S2 (ed_call ⟨x, n, as, false, l', a, b⟩ (ea_c (ed_var rfl) (ea_c (ed_var rfl) (ea_c (ed_var rfl) ea_nil))) ⟨sz, e1, lb, B.flow.1⟩ rfl fun d q => q) fun v5 G3 H3 _ _ S3 => ?_
        let δ : Fm := [Cell.p v1 x, Cell.p v2 (iD a), Cell.p v3 (iD b), .d (intsT l'), .d (nodesT (FM.asc n (FM.rset (FM.turn as) l' b))), .no]
        have S3 : Sd e δ G3 H3 _ := S3
        refine s_out (Ra := fun d => d = .tuple [nodesT (FM.asc n (FM.rset as l' a)), nodesT (FM.asc n (FM.lset as l' b))]) S3 (ed_tup (ea_c (ed_call ⟨x, n, as, false, l', a, b⟩ (ea_c (ed_var rfl) (ea_c (ed_var rfl) (ea_c (ed_var rfl) ea_nil))) ⟨sz, e1, la, B.flow.1⟩ rfl fun d q => q) (ea_c (ER.is (ed_tupleOf rfl (el_ed (el_lc (xs := List.range n) (enc := iD) (p := FM.lset as l' b) (f := iD) (δ' := fun u => δ.set 5 (.d (iD u))) (it_range1 (ea_c (ed_ix (n := 0) (d := iD n) (da := netD n as) (ed_call x (ea_c (ed_var rfl) ea_nil) sz (by unfold badNet; rw [e1]; rfl) fun d ⟨n', as', k1, k2⟩ => by
          rw [e1] at k1; cases k1; exact k2) ed_int .t rfl) ea_nil) (by omega)) (by simp) rfl (fun p _ => ga_name) (fun _ _ => rfl) (fun u hu => eb_T (ER.is (ed_notIn (ns := (FM.asc n (FM.rset (FM.turn as) l' b)).map fun v : Nat => (v : Int)) (i := (u : Int)) (ed_var rfl) (ed_var rfl) ?_) ?_)) (fun u _ _ => ed_var rfl) (by simp; omega))) .l) rfl) ea_nil)) (show 2 ≤ 1000000 by decide)) (i.rt hb) fun d q => ⟨n, as, a, b, e1, e2, e3, .inl ⟨l', B, q⟩⟩
        · rw [List.map_map]; exact .t
        · have hu := List.mem_range.mp hu
          have e5 : ((u : Int) ∈ (FM.asc n (FM.rset (FM.turn as) l' b)).map fun v : Nat => (v : Int)) ↔ FM.Late as l' b u := by
            rw [List.mem_map]
            constructor
            · rintro ⟨y, hy, q⟩
              have : y = u := by omega
              subst this
              exact FM.rset_iff.mp (FM.mem_asc.mp hy).2
            · intro h
              exact ⟨u, FM.mem_asc.mpr ⟨hu, FM.rset_iff.mpr h⟩, rfl⟩
          refine congrArg PyData.bool ?_
          cases q : FM.lset as l' b u with
          | true =>
            have := FM.lset_iff.mp q
            rw [decide_eq_false fun z => this (e5.mp z)]; rfl
          | false =>
            have : FM.Late as l' b u := Classical.byContradiction fun z => by
              rw [FM.lset_iff.mpr z] at q; cases q
            rw [decide_eq_true (e5.mpr this)]; rfl
      · subst q'; cases z
end
end DL
namespace DL
open PySem L2
section
variable {e : Ent} {δ : Fm} {te ta tb : TE} {tt : TT} {tr : TA} {tb' : TS} {t1 t2 : TS} {d : PyData} {K : PySem.W.Frag} {D : L2.Ends} {σ : L2.St} {G H : Hp} {E : XK} {C : Addr} {w : V} {R : PyData → Prop}
/-- a new list of new lists -/
theorem q_newLL {i j m n : Nat} (S : Sd e δ G H σ) (hm : (δ[m]?).bind cellD = some (iD n)) (hn : n ≤ 1000000) (k : ∀ rs σ' G' H', rs.length = n → Ex G G' → Sd e (δ.set i (.ll rs (List.replicate n []))) G' H' σ' → t2 D σ' H') :
    tSeq (tAsg (tLc (iRng1 (tCons (tVar m) tNil)) (gName j) tYes (tLst tNil) [j]) (gName i)) t2 D σ H := by
  obtain ⟨v, h1, h2⟩ := S.var hm
  cases h2
  refine ⟨_, h1, (n : Int), rfl, by omega, by omega, fun P hP => ?_⟩
  let W : Nat → Hp → Prop := fun i H' => ∃ rs : List Addr, rs.length = i ∧ (P :: rs).Nodup ∧ (∀ x ∈ P :: rs, H x = none) ∧ (∀ a, a ∉ P :: rs → H' a = H a) ∧ H' P = some (.lst (rs.map V.ref)) ∧ ∀ r ∈ rs, H' r = some (.lst [])
  refine ⟨fun i m H' => m = n - i ∧ i ≤ n ∧ W i H', ⟨n, by omega, Nat.zero_le _, [], rfl, by simp, by simpa using hP, fun a ha => upd_ne (by simpa using ha), upd_same, by simp⟩, fun q m' H' hW => ?_⟩
  obtain ⟨rfl, hi, rs, l1, l2, l3, l4, l5, l6⟩ := hW
  by_cases hq : q < n
  · refine .inr ⟨show q < (n : Int).toNat by omega, W (q + 1), fun H2 p2 => ⟨n - (q + 1), by omega, rfl, hq, p2⟩, fun v H2 y => ?_⟩
    obtain ⟨e1, e2⟩ := y
    subst e1 e2
    refine ⟨?_, lenOk (show 0 ≤ 1000000 by decide), fun p hp => ?_⟩
    · show (((σ.set j none).set j _).set j none) = σ.set j none
      rw [List.set_set, List.set_set]
    have pn : p ∉ P :: rs := fun z => by
      obtain z | z := List.mem_cons.mp z
      · subst z; rw [l5] at hp; cases hp
      · rw [l6 p z] at hp; cases hp
    have pP : P ≠ p := fun z => pn (by rw [z]; exact List.mem_cons_self)
    have hpH : H p = none := by rw [← l4 p pn]; exact hp
    refine ⟨rs.map V.ref, by rw [upd_ne pP]; exact l5, lenLt (by rw [List.length_map]; omega), rs ++ [p], by simp [l1], ?_, fun x hx => ?_, fun a ha => ?_, ?_, fun r hr => ?_⟩
    · rw [← List.cons_append, List.nodup_append]
      exact ⟨l2, by simp, fun a ha b hb z => by simp at hb; subst hb; subst z; exact pn ha⟩
    · rw [← List.cons_append] at hx
      rcases List.mem_append.mp hx with z | z
      · exact l3 x z
      · have : x = p := by simpa using z
        rw [this]; exact hpH
    · rw [← List.cons_append] at ha
      have a1 : a ∉ P :: rs := fun z => ha (List.mem_append_left _ z)
      have a2 : a ≠ p := fun z => ha (by simp [z])
      have a3 : a ≠ P := fun z => a1 (by simp [z])
      rw [upd_ne a3, upd_ne a2]; exact l4 a a1
    · rw [upd_same]; simp
    · have r3 : r ≠ P := fun z => by
        subst z
        rcases List.mem_append.mp hr with y | y
        · exact (List.nodup_cons.mp l2).1 y
        · have : r = p := by simpa using y
          exact pP this
      rw [upd_ne r3]
      by_cases z : r = p
      · subst z; exact upd_same
      · rw [upd_ne z]
        rcases List.mem_append.mp hr with y | y
        · exact l6 r y
        · exact absurd (by simpa using y) z
  · have : q = n := by omega
    subst this
    refine .inl ⟨show (q : Int).toNat ≤ q by omega, ?_⟩
    have x : Ext G H G H' := ⟨Ex.rfl', fun a o ha => by
      have : a ∉ P :: rs := fun z => by rw [l3 a z] at ha; cases ha
      rw [l4 a this]; exact ha, fun a o ha => by
      have ha' := S.sub a o ha
      have : a ∉ P :: rs := fun z => by rw [l3 a z] at ha'; cases ha'
      rw [l4 a this]; exact ha', fun a ha => .inl ha⟩
    have S1 := (S.go x).s
    have rw_ : Rws G H' rs (List.replicate q []) := by
      have key : ∀ rs : List Addr, (∀ r ∈ rs, H' r = some (.lst [])) → Rws G H' rs (List.replicate rs.length []) := by
        intro rs
        induction rs with
        | nil => intro _; exact .nil
        | cons r rs ih => intro h; exact .cons (h r List.mem_cons_self) .nil (ih fun x hx => h x (List.mem_cons_of_mem _ hx))
      rw [← l1]; exact key rs l6
    refine k rs _ G H' l1 Ex.rfl' (S1.setC (i := i) (v := .ref P) ⟨P, rfl, l5, l2, rw_⟩ fun a ha => ?_)
    have hz : H a = none := by
      rcases ha with z | z
      · cases z; exact l3 P List.mem_cons_self
      · exact l3 a (List.mem_cons_of_mem _ z)
    exact ⟨.inr (S.eh hz), S.gn hz, fun j c _ hc => S.no hz j c hc⟩
/-- the k-th of them grows -/
theorem s_appLL {i k : Nat} {rs : List Addr} {rows : List (List PyData)} {row : List PyData} (S : Sd e δ G H σ) (hi : δ[i]? = some (.ll rs rows)) (hb : ED e tb δ (iD k)) (hk : rows[k]? = some row) (hz : row.length < 1000000) (h : ER e te δ R)
    (kk : ∀ d G' H', R d → Ex G G' → Sd e (δ.set i (.ll rs (rows.set k (row ++ [d])))) G' H' σ → D.nx σ H') : tDrop (tBM K "list" rAppend (tOp (rIx K) (tVar i) tb) (tCons te tNil)) D σ H := by
  obtain ⟨a, h1, h2, h3, h4⟩ := S.cells i _ hi
  refine ⟨_, h1, hb σ G H _ S fun d' v' G1 H1 r g q => ?_⟩
  subst r; cases q
  obtain ⟨a', k1, k2, k3, k4⟩ := g.s.cells i _ hi
  rw [h1] at k1; cases k1
  obtain ⟨p, ys, e1, e2, e3⟩ := k4.get hk
  have e4 : (rs.map V.ref)[k]? = some (.ref p) := by rw [List.getElem?_map, e1]; rfl
  refine .inl ⟨a, _, k, _, rfl, rfl, SqL.of k2, atI_nat e4, .inl ⟨rfl, _, SqL.of e2⟩, h σ G1 H1 _ g.s fun d v G2 H2 rd g2 q => ?_⟩
  obtain ⟨a', l1, l2, l3, l4⟩ := g2.s.cells i _ hi
  rw [h1] at l1; cases l1
  obtain ⟨p', zs, f1, f2, f3⟩ := l4.get hk
  rw [e1] at f1; cases f1
  have ow : Own σ[i]? p (.ll rs rows) := .inr (List.mem_of_getElem? e1)
  have pa : a ≠ p := fun z => (List.nodup_cons.mp l3).1 (by rw [z]; exact List.mem_of_getElem? e1)
  refine ⟨p, zs, v, rfl, rfl, f2, lenLt (by rw [f3.len]; exact hz), kk d G2 _ rd (g.g.tr g2.g) (g2.s.mut hi ow (fun _ w => w) ⟨a, h1, by rw [upd_ne pa]; exact l2, l3, l4.set (f3.snoc q) (List.nodup_cons.mp l3).2 e1⟩)⟩
theorem tellAll : ∀ {rs : List Addr} {rows : List (List PyData)} {G : Hp}, Sd e δ G H σ → Rws G H rs rows → rs.Nodup → (∀ r ∈ rs, e.H r = none ∧ G r = none ∧ ∀ (j : Nat) (c : Cell), δ[j]? = some c → ¬ Own σ[j]? r c) →
    ∃ G', Ex G G' ∧ Sd e δ G' H σ ∧ DgAll G' (rs.map V.ref) (rows.map PyData.list) ∧ ∀ x, x ∉ rs → G' x = G x
  | _, _, G, S, .nil, _, _ => ⟨G, Ex.rfl', S, .nil, fun _ _ => rfl⟩
  | r :: rs, row :: rows, G, S, .cons (ys := ys) h1 h2 h3, nd, hf => by
    have ⟨n1, n2⟩ := List.nodup_cons.mp nd
    obtain ⟨f1, f2, f3⟩ := hf r List.mem_cons_self
    have S1 := S.tell (p := r) (o := .lst ys) ⟨h1, f1, f2, f3⟩
    have g1 : Ex G (upd G r (.lst ys)) := Ex.updN f2
    obtain ⟨G', g2, S2, d2, x2⟩ := tellAll S1 (h3.up g1 fun _ _ _ hu => hu) n2 fun x hx => by
      obtain ⟨a1, a2, a3⟩ := hf x (List.mem_cons_of_mem _ hx)
      have : x ≠ r := fun z => n1 (by rw [← z]; exact hx)
      exact ⟨a1, by rw [upd_ne this]; exact a2, a3⟩
    refine ⟨G', g1.tr g2, S2, .cons (.lst (g2 _ _ upd_same) (h2.up (g1.tr g2))) d2, fun x hx => ?_⟩
    have b1 : x ≠ r := fun z => hx (by simp [z])
    rw [x2 x fun z => hx (List.mem_cons_of_mem _ z), upd_ne b1]
theorem Sd.freezeLL {i : Nat} {rs : List Addr} {rows : List (List PyData)} (S : Sd e δ G H σ) (hc : δ[i]? = some (.ll rs rows)) (nb : ∀ a, ¬ e.B a) : ∃ G', Ex G G' ∧ Sd e (δ.set i (.d (.list (rows.map PyData.list)))) G' H σ := by
  obtain ⟨a, h1, h2, h3, h4⟩ := S.cells i _ hc
  have hl : i < δ.length := (List.getElem?_eq_some_iff.mp hc).1
  have S1 := S.forget i
  have fr : ∀ r, Own σ[i]? r (.ll rs rows) → e.H r = none ∧ G r = none ∧ ∀ (j : Nat) (c : Cell), (δ.set i .no)[j]? = some c → ¬ Own σ[j]? r c := fun r w => by
    obtain ⟨w1, w2⟩ := S.own i _ r hc w
    refine ⟨w1.elim (fun z => absurd z (nb r)) id, w2, fun j c hj ow => ?_⟩
    by_cases z : j = i
    · subst z; rw [List.getElem?_set_self hl] at hj; cases hj; exact ow
    · rw [List.getElem?_set_ne (Ne.symm z)] at hj
      exact z (S.apart j i c _ r hj hc ow w)
  obtain ⟨n1, n2⟩ := List.nodup_cons.mp h3
  obtain ⟨G1, g1, S2, d1, x1⟩ := tellAll S1 h4 n2 fun r hr => fr r (.inr hr)
  obtain ⟨f1, f2, f3⟩ := fr a (.inl h1)
  have S3 := S2.tell (p := a) (o := .lst (rs.map V.ref)) ⟨h2, f1, by rw [x1 a n1]; exact f2, f3⟩
  have g2 : Ex G1 (upd G1 a (.lst (rs.map V.ref))) := Ex.updN (by rw [x1 a n1]; exact f2)
  refine ⟨_, g1.tr g2, ?_⟩
  have S4 := S3.weak (i := i) (c' := .d (.list (rows.map PyData.list))) (fun _ w => w) ⟨.ref a, h1, .lst upd_same (d1.up g2)⟩
  rw [List.set_set] at S4
  exact S4
end
section
variable {K : PySem.W.Frag} {C : Addr} {E : XK} {vs : List V} {H : Hp} {Q : VK}
theorem set_rangeL {n k : Nat} {f : Nat → List PyData} {y : List PyData} (hk : k < n) : ((List.range n).map f).set k y = (List.range n).map fun v => if v = k then y else f v := by
  refine List.ext_getElem? fun i => ?_
  rw [List.getElem?_set, List.getElem?_map, List.getElem?_map]
  by_cases hi : i < n
  · rw [List.getElem?_range hi]
    by_cases q : k = i
    · subst q; simp [hi]
    · simp [q, Ne.symm q]
  · rw [List.getElem?_eq_none (by simpa using hi)]
    by_cases q : k = i
    · omega
    · simp [q]
theorem get_rangeL {n k : Nat} {f : Nat → List PyData} (hk : k < n) : ((List.range n).map f)[k]? = some (f k) := by
  rw [List.getElem?_map, List.getElem?_range hk]; rfl
theorem leads_bound (u : Nat) : ∀ (as : List FM.Arc) (k : Nat), (FM.leadsFrom k as u).length ≤ 2 * as.length
  | [], k => by simp [FM.leadsFrom]
  | a :: as, k => by
    have ih := leads_bound u as (k + 1)
    simp only [FM.leadsFrom, List.length_append, List.length_cons]
    have h1 : (if a.tl = u then [(k, true, a.hd)] else []).length ≤ 1 := by split <;> simp
    have h2 : (if a.hd = u then [(k, false, a.tl)] else []).length ≤ 1 := by split <;> simp
    omega
theorem pu_leads_of (h : sp_leads_of C vs H Q E) : t_leads_of K C E { nx := fun _ H' => Q .non H', rt := Q } (L2.start ["many", "arcs", "found", "at", "tail", "head", "most", "_", "row"] vs) H := by
  obtain ⟨⟨n, as⟩, v1, v2, G, e, rfl, d1, d2, i⟩ := SP.in2 h (fun _ => rfl) ["many", "arcs", "found", "at", "tail", "head", "most", "_", "row"] (by decide)
  have ok : NetOk n as := i.pre
  have n1 := ok.n1
  have osz := ok.sz
  let f (j u : Nat) : List PyData := (FM.leadsFrom 0 (as.take j) u).map leadD
  refine q_newLL i.S rfl (show n ≤ 1000000 by omega) fun rs σ1 G1 H1 hrs _ S1 => ?_
  let F (j : Nat) (c3 c4 c5 c6 : Cell) : Fm := [Cell.p v1 (iD n), Cell.p v2 (arcsD as), .ll rs ((List.range n).map (f j)), c3, c4, c5, c6, .no, .no]
  have e0 : List.replicate n ([] : List PyData) = (List.range n).map (f 0) := by
    refine List.ext_getElem? (fun j => ?_)
    rw [List.getElem?_replicate, List.getElem?_map]
    by_cases q : j < n
    · rw [if_pos q, List.getElem?_range q]
      show _ = some ((FM.leadsFrom 0 (as.take 0) j).map leadD)
      simp [FM.leadsFrom]
    · rw [if_neg q, List.getElem?_eq_none (by simpa using q)]; rfl
  rw [e0] at S1
  have S1 : Sd e (F 0 .no .no .no .no) G1 H1 σ1 := S1
  refine q_forD (items := enumD (as.map arcD)) S1 (it_enum (ed_var rfl)) (fun j δ => ∃ c3 c4 c5 c6, δ = F j c3 c4 c5 c6) ⟨.no, .no, .no, .no, rfl⟩ (fun e1 sb j d δ1 σ2 G2 H2 hd hP S2 => ?_) fun δn σn Gn Hn hP _ S2 => ?_
  · obtain ⟨c3, c4, c5, c6, rfl⟩ := hP
    obtain ⟨x, hx, rfl⟩ := enumD_at hd
    rw [List.getElem?_map] at hx
    obtain ⟨a, ha, rfl⟩ := Option.map_eq_some_iff.mp hx
    have hj := (List.getElem?_eq_some_iff.mp ha).1
    obtain ⟨w1, w2, _⟩ := ok.wf a (List.mem_of_getElem? ha)
    refine ⟨_, _, ga_tup (gas_cons ga_name (gas_cons ga_three gas_nil)) rfl, fun σ3 G3 H3 S3 => ?_⟩
    have S3 : Sd e1 (F j (.d (iD j)) (.d (iD a.tl)) (.d (iD a.hd)) (.d (optD a.mo))) G3 H3 σ3 := S3
    have bd : ∀ u, (f j u).length ≤ 2000 := fun u => by
      show ((FM.leadsFrom 0 (as.take j) u).map leadD).length ≤ _
      rw [List.length_map]
      have := leads_bound u (as.take j) 0
      simp at this
      omega
    let l1 : PyData := leadD (j, true, a.hd)
    let l2 : PyData := leadD (j, false, a.tl)
    refine seq (s_appLL (R := fun d => d = l1) (row := f j a.tl) S3 rfl (ed_var rfl) (get_rangeL w1) (by have := bd a.tl; omega) (ed_tup (ea_c (ed_var rfl) (ea_c ed_int (ea_c (ed_var rfl) ea_nil))) (show 3 ≤ 1000000 by decide)) fun d G4 H4 rd _ S4 => ?_)
    subst rd
    have e1' := set_rangeL (f := f j) (y := f j a.tl ++ [l1]) w1
    rw [e1'] at S4
    refine s_appLL (R := fun d => d = l2) (k := a.hd) (row := if a.hd = a.tl then f j a.tl ++ [l1] else f j a.hd) S4 rfl (ed_var rfl) (get_rangeL w2) ?_ (ed_tup (ea_c (ed_var rfl) (ea_c ed_int (ea_c (ed_var rfl) ea_nil))) (show 3 ≤ 1000000 by decide)) fun d G5 H5 rd _ S5 => ?_
    · have := bd a.tl
      have := bd a.hd
      split
      · simp; omega
      · omega
    subst rd
    refine ⟨_, G5, ⟨.d (iD j), .d (iD a.tl), .d (iD a.hd), .d (optD a.mo), ?_⟩, S5⟩
    have key : ((List.range n).map fun v => if v = a.tl then f j a.tl ++ [l1] else f j v).set a.hd ((if a.hd = a.tl then f j a.tl ++ [l1] else f j a.hd) ++ [l2]) = (List.range n).map (f (j + 1)) := by
      rw [set_rangeL w2]
      refine List.map_congr_left fun u _ => ?_
      show _ = (FM.leadsFrom 0 (as.take (j + 1)) u).map leadD
      rw [take_snoc ha, FM.leads_snoc]
      have tl : (as.take j).length = j := by rw [List.length_take]; omega
      rw [tl, Nat.zero_add, List.map_append]
      by_cases q1 : u = a.hd
      · subst q1
        rw [if_pos rfl]
        by_cases q2 : a.hd = a.tl
        · rw [if_pos q2, if_pos q2.symm, if_pos rfl, ← q2]
          simp [f, l1, l2, q2]
        · have q3 : ¬ a.tl = a.hd := fun z => q2 z.symm
          rw [if_neg q2, if_neg q3, if_pos rfl]
          simp [f, l2]
      · have q1' : ¬ a.hd = u := fun z => q1 z.symm
        rw [if_neg q1, if_neg q1']
        by_cases q2 : u = a.tl
        · subst q2
          rw [if_pos rfl, if_pos rfl]
          simp [f, l1]
        · have q3 : ¬ a.tl = u := fun z => q2 z.symm
          rw [if_neg q2, if_neg q3]
          simp [f]
    exact congrArg (fun X => [Cell.p v1 (iD n), Cell.p v2 (arcsD as), Cell.ll rs X, .d (iD j), .d (iD a.tl), .d (iD a.hd), .d (optD a.mo), .no, .no]) key
  · obtain ⟨c3, c4, c5, c6, rfl⟩ := hP
    obtain ⟨G3, _, S3⟩ := S2.freezeLL (i := 2) rfl i.nb
    rw [enumD_len, List.length_map] at S3
    have tk : as.take as.length = as := List.take_length
    let δ2 : Fm := [Cell.p v1 (iD n), Cell.p v2 (arcsD as), .d (.list (((List.range n).map (f as.length)).map PyData.list)), c3, c4, c5, c6, .no, .no]
    have S3 : Sd e δ2 G3 Hn σn := S3
    refine s_out S3 (ed_tupleOf rfl (el_ed (el_map (xs := (List.range n).map (f as.length)) (enc := PyData.list) (f := PyData.tuple) (δ' := fun row => δ2.set 8 (.d (.list row))) (it_seq (ed_var rfl) .l) (by simp) rfl (fun p _ => ga_name) (fun _ _ => rfl) (fun row _ => ed_tupleOf rfl (ed_var rfl) .l) (by simp; omega))) .l) (i.rt rfl) fun d q => ?_
    rw [q]
    show _ = leadsD n as
    unfold leadsD
    congr 1
    rw [List.map_map]
    refine List.map_congr_left fun u _ => ?_
    show PyData.tuple ((FM.leadsFrom 0 (as.take as.length) u).map leadD) = rowD as u
    rw [tk]; rfl
end
end DL
/-! boxes of two numbers, handed on -/
namespace DL
open PySem L2
structure Exb (bx : Addr) (G H G' H' : Hp) : Prop where
  g : Ex G G'
  h : ∀ a o, a ≠ bx → H a = some o → H' a = some o
  b : ∃ i j, H' bx = some (.lst [.int i, .int j])
  s : Ex G' H'
  n : ∀ a, G' a ≠ none → G a ≠ none ∨ H a = none
/-- a def's promise, its first argument a box -/
def BP {α : Type} (C : Addr) (enc : α → List PyData) (pre : α → Prop) (R : α → PyData → Prop) : Sp := fun vs H Q _ => ∃ G p bx ws i j, vs = .ref bx :: ws ∧ Ex G H ∧ G bx = none ∧ H bx = some (.lst [.int i, .int j]) ∧ DgAll G ws (enc p) ∧ pre p ∧
  ∀ v d G' H', R p d → Exb bx G H G' H' → Dg G' v d → Q v H'
theorem BP.len {α : Type} {C : Addr} {enc : α → List PyData} {pre : α → Prop} {R : α → PyData → Prop} {n : Nat} (hn : ∀ p, (enc p).length = n) {vs : List V} {H : Hp} {Q : VK} {E : XK} (h : BP C enc pre R vs H Q E) : vs.length = n + 1 := by
  obtain ⟨G, p, bx, ws, i, j, rfl, _, _, _, h2, _⟩ := h
  rw [List.length_cons, h2.len, hn]
section
variable {e : Ent} {δ : Fm} {te ta tb : TE} {tt : TT} {tr : TA} {tb' : TS} {t1 t2 : TS} {d : PyData} {K : PySem.W.Frag} {D : L2.Ends} {σ : L2.St} {G H : Hp} {E : XK} {C : Addr} {w : V} {R : PyData → Prop} {Rs : List PyData → Prop}
theorem Sd.box {i : Nat} {bx : Addr} (S : Sd e δ G H σ) (hi : δ[i]? = some (.b bx)) : σ[i]? = some (some (.ref bx)) ∧ (∃ x y, H bx = some (.lst [.int x, .int y])) ∧ G bx = none ∧ (e.B bx ∨ e.H bx = none) := by
  obtain ⟨h1, h2⟩ := S.cells i _ hi
  obtain ⟨h3, h4⟩ := S.own i _ bx hi h1
  exact ⟨h1, h2, h4, h3⟩
/-- a call behind which the box may be another -/
theorem Sd.goB {i : Nat} {bx : Addr} {G' H' : Hp} (S : Sd e δ G H σ) (hi : δ[i]? = some (.b bx)) (x : Exb bx G H G' H') : Go e δ σ G H G' H' := by
  obtain ⟨h1, h2, h3, h4⟩ := S.box hi
  have gb : G' bx = none := by
    cases q : G' bx with
    | none => rfl
    | some o =>
      exfalso
      rcases x.n bx (by rw [q]; exact Option.some_ne_none _) with z | z
      · exact z h3
      · obtain ⟨i, j, h2⟩ := h2
        rw [h2] at z; cases z
  refine ⟨x.g, fun a o ha nb => x.h a o (fun z => nb i bx hi (by rw [z]; exact h1)) ha, x.n, ⟨x.s, S.grow.tr x.g, fun a o ha nb => ?_, fun a ha => ?_, fun a hb q => ?_, S.len, fun j c hc => ?_, fun j c a hc w => ?_, S.apart⟩⟩
  · have : a ≠ bx := fun z => by
      subst z
      rcases h4 with z | z
      · exact nb z
      · rw [z] at ha; cases ha
    exact x.h a o this (S.old a o ha nb)
  · rcases x.n a ha with z | z
    · exact S.new a z
    · exact .inr (S.eh z)
  · by_cases z : a = bx
    · subst z; obtain ⟨i, j, hb'⟩ := x.b; rw [hb'] at q; cases q
    · cases hh : H a with
      | none => exact S.bs a hb hh
      | some o => rw [x.h a o z hh] at q; cases q
  · by_cases z : j = i
    · subst z
      rw [hi] at hc; cases hc
      exact ⟨h1, x.b⟩
    · exact (S.cells j c hc).up x.g fun a w u hu => x.h a u (fun y => by
        subst y
        exact z (S.apart j i c _ a hc hi w h1)) hu
  · obtain ⟨w1, w2⟩ := S.own j c a hc w
    refine ⟨w1, ?_⟩
    cases q : G' a with
    | none => rfl
    | some o =>
      exfalso
      rcases x.n a (by rw [q]; exact Option.some_ne_none _) with z | z
      · exact z w2
      · obtain ⟨u, hu⟩ := (S.cells j c hc).there w
        rw [hu] at z; cases z
theorem er_callB {α : Type} {enc : α → List PyData} {pre : α → Prop} {Rr : α → PyData → Prop} {i : Nat} {bx : Addr} (hi : δ[i]? = some (.b bx)) (h : EA e tr δ Rs) (hp : ∀ ds, Rs ds → ∃ p, ds = enc p ∧ pre p ∧ ∀ d, Rr p d → R d) : ER e (tCall (BP C enc pre Rr) [] E (tCons (tVar i) tr)) δ R := fun σ G H Q S k => by
  obtain ⟨h1, _⟩ := S.box hi
  refine ⟨_, h1, h σ G H _ S fun ds vs G1 H1 r g q => ?_⟩
  obtain ⟨_, ⟨x, y, h2⟩, h3, h4⟩ := g.s.box hi
  obtain ⟨p, e1, e2, e3⟩ := hp ds r
  subst e1
  exact ⟨G1, p, bx, vs, x, y, by rw [List.append_nil], g.s.sub, h3, h2, q, e2, fun v d G' H' rd x dg => k d v G' H' (e3 d rd) (g.trans (g.s.goB hi x)) dg⟩
theorem ed_callB {α : Type} {enc : α → List PyData} {pre : α → Prop} {Rr : α → PyData → Prop} {i : Nat} {bx : Addr} (hi : δ[i]? = some (.b bx)) (p : α) (h : EAD e tr δ (enc p)) (hp : pre p) (hr : ∀ d, Rr p d → R d) : ER e (tCall (BP C enc pre Rr) [] E (tCons (tVar i) tr)) δ R :=
  er_callB hi h fun ds q => ⟨p, q, hp, hr⟩
/-- numbers read from and written into a box -/
theorem er_box {i n : Nat} {bx : Addr} (hi : δ[i]? = some (.b bx)) (hb : ED e tb δ (iD n)) (hn : n < 2) : ER e (tOp (rIx K) (tVar i) tb) δ fun d => ∃ x : Int, d = .int x := fun σ G H Q S k => by
  obtain ⟨h1, _⟩ := S.box hi
  refine ⟨_, h1, hb σ G H _ S fun d' v G1 H1 r g q => ?_⟩
  subst r; cases q
  obtain ⟨_, ⟨x, y, h2⟩, _⟩ := g.s.box hi
  match n, hn with
  | 0, _ => exact .inl ⟨bx, _, 0, .int x, rfl, rfl, SqL.of h2, atI_nat (j := 0) (v := V.int x) rfl, k _ _ G1 H1 ⟨x, rfl⟩ g (.int x)⟩
  | 1, _ => exact .inl ⟨bx, _, 1, .int y, rfl, rfl, SqL.of h2, atI_nat (j := 1) (v := V.int y) rfl, k _ _ G1 H1 ⟨y, rfl⟩ g (.int y)⟩
theorem s_setB {i n : Nat} {bx : Addr} (S : Sd e δ G H σ) (hi : δ[i]? = some (.b bx)) (h : ER e te δ fun d => ∃ x : Int, d = .int x) (hb : ED e tb δ (iD n)) (hn : n < 2) (k : ∀ G' H', Ex G G' → Sd e δ G' H' σ → D.nx σ H') : tAsg te (gSub (tVar i) tb rSetL) D σ H := h σ G H _ S fun d v G1 H1 ⟨z, r⟩ g q => by
  subst r; cases q
  obtain ⟨h1, _⟩ := g.s.box hi
  refine ⟨_, h1, hb σ G1 H1 _ g.s fun d' v' G2 H2 r' g' q' => ?_⟩
  subst r'; cases q'
  obtain ⟨_, ⟨x, y, h2⟩, h3, h4⟩ := g'.s.box hi
  have fin : ∀ x' y', Sd e δ G2 (upd H2 bx (.lst [.int x', .int y'])) σ := fun x' y' => (g'.s.goB hi ⟨Ex.rfl', fun a o z ha => by rw [upd_ne z]; exact ha, ⟨x', y', upd_same⟩, fun a o ha => by
    have : a ≠ bx := fun z => by subst z; rw [h3] at ha; cases ha
    rw [upd_ne this]; exact g'.s.sub a o ha, fun a ha => .inl ha⟩).s
  match n, hn with
  | 0, _ => exact ⟨bx, _, 0, 0, rfl, rfl, h2, rfl, k G2 _ (g.g.tr g'.g) (fin z y)⟩
  | 1, _ => exact ⟨bx, _, 1, 1, rfl, rfl, h2, rfl, k G2 _ (g.g.tr g'.g) (fin x z)⟩
/-! ### entry with a box -/
structure RtnB (e : Ent) (bx : Addr) (Q : VK) (R : PyData → Prop) : Prop where
  go : ∀ d v G' H' δ σ, R d → Sd e δ G' H' σ → δ[0]? = some (.b bx) → Dg G' v d → Q v H'
theorem s_outB {bx : Addr} {Ra : PyData → Prop} (S : Sd e δ G H σ) (h0 : δ[0]? = some (.b bx)) (h : ER e te δ Ra) (r : RtnB e bx D.rt R) (i : ∀ d, Ra d → R d) : tRet te D σ H := s_ret S h fun d v G' H' rd _ S' q => r.go d v G' H' δ σ (i d rd) S' h0 q
theorem Sd.beginB {bx : Addr} {x y : Int} (s : Ex G H) (gb : G bx = none) (hb : H bx = some (.lst [.int x, .int y])) {ws : List V} {ds : List PyData} (h : DgAll G ws ds) (N : List Str) (hl : ws.length + 1 ≤ N.length) :
    Sd ⟨G, H, fun a => a = bx⟩ (.b bx :: frame0 ws ds (N.length - (ws.length + 1))) G H (L2.start N (.ref bx :: ws)) := by
  have lz : (List.zipWith Cell.p ws ds).length = ws.length := by rw [List.length_zipWith, h.len, Nat.min_self]
  have at_ : ∀ {i : Nat} {c : Cell}, (Cell.b bx :: frame0 ws ds (N.length - (ws.length + 1)))[i]? = some c → (i = 0 ∧ c = .b bx) ∨ c = .no ∨ ∃ v x, c = .p v x ∧ (L2.start N (.ref bx :: ws))[i]? = some (some v) ∧ Dg G v x := fun {i c} q => by
    cases i with
    | zero => exact .inl ⟨rfl, (Option.some.inj q).symm⟩
    | succ i =>
      have q : (frame0 ws ds (N.length - (ws.length + 1)))[i]? = some c := q
      unfold frame0 at q
      by_cases hi : i < ws.length
      · rw [List.getElem?_append_left (by omega)] at q
        obtain ⟨v, x, e1, e2, e3⟩ := zipP_at h q
        refine .inr (.inr ⟨v, x, e1, ?_, e3⟩)
        unfold L2.start
        rw [List.getElem?_append_left (by simpa using hi), List.getElem?_map]
        show ((ws[i]?).map some) = _
        rw [e2]; rfl
      · rw [List.getElem?_append_right (by omega)] at q
        rw [List.getElem?_replicate] at q
        split at q
        · exact .inr (.inl (Option.some.inj q).symm)
        · cases q
  have s0 : (L2.start N (.ref bx :: ws))[0]? = some (some (.ref bx)) := rfl
  have ow : ∀ {i : Nat} {c : Cell} {a : Addr}, (Cell.b bx :: frame0 ws ds (N.length - (ws.length + 1)))[i]? = some c → Own (L2.start N (.ref bx :: ws))[i]? a c → i = 0 ∧ a = bx := fun {i c a} q w => by
    rcases at_ q with ⟨z1, z2⟩ | z | ⟨v, x, e1, _⟩
    · subst z1 z2
      have w : (L2.start N (.ref bx :: ws))[0]? = some (some (.ref a)) := w
      rw [s0] at w; cases w; exact ⟨rfl, rfl⟩
    · subst z; exact w.elim
    · subst e1; exact w.elim
  refine ⟨s, Ex.rfl', fun _ _ q _ => q, fun _ q => .inl q, fun a q => ?_, ?_, fun i c q => ?_, fun i c a q w => ?_, fun i j c c' a q1 q2 w1 w2 => ?_⟩
  · have q : a = bx := q
    rw [q, hb]; exact Option.some_ne_none _
  · unfold L2.start frame0
    simp only [List.length_append, List.length_map, List.length_replicate, List.length_cons, lz]
    omega
  · rcases at_ q with ⟨z1, z2⟩ | z | ⟨v, x, e1, e2, e3⟩
    · subst z1 z2; exact ⟨s0, _, _, hb⟩
    · subst z; trivial
    · subst e1; exact ⟨e2, e3⟩
  · obtain ⟨_, rfl⟩ := ow q w
    exact ⟨.inl rfl, gb⟩
  · rw [(ow q1 w1).1, (ow q2 w2).1]
structure InB {α : Type} (enc : α → List PyData) (pre : α → Prop) (R : α → PyData → Prop) (bx : Addr) (vs : List V) (H : Hp) (Q : VK) (N : List Str) (p : α) (G : Hp) (e : Ent) (δ : Fm) : Prop where
  pre : pre p
  S : Sd e δ G H (L2.start N vs)
  rt : RtnB e bx Q (R p)
  eB : ∀ a, e.B a → a = bx
variable {α : Type} {enc : α → List PyData} {pre : α → Prop} {Rr : α → PyData → Prop} {vs : List V} {Q : VK}
theorem BP.into (h : BP C enc pre Rr vs H Q E) (N : List Str) (hl : vs.length ≤ N.length) : ∃ bx ws p G, vs = .ref bx :: ws ∧ DgAll G ws (enc p) ∧ InB enc pre Rr bx vs H Q N p G ⟨G, H, fun a => a = bx⟩ (.b bx :: frame0 ws (enc p) (N.length - (ws.length + 1))) := by
  obtain ⟨G, p, bx, ws, i, j, rfl, s, gb, hb, dv, hp, hq⟩ := h
  refine ⟨bx, ws, p, G, rfl, dv, hp, Sd.beginB s gb hb dv N hl, ⟨fun d v G' H' δ σ r S h0 q => hq v d G' H' r ⟨S.grow, fun a o z ha => S.old a o ha z, ?_, S.sub, S.new⟩ q⟩, fun a z => z⟩
  obtain ⟨_, h2, _⟩ := S.box h0
  exact h2
theorem BP.in1 (h : BP C enc pre Rr vs H Q E) {a : α → PyData} (he : ∀ p, enc p = [a p]) (N : List Str) (hN : 2 ≤ N.length) : ∃ p bx v1 G e, vs = [.ref bx, v1] ∧ Dg G v1 (a p) ∧ InB enc pre Rr bx vs H Q N p G e (.b bx :: .p v1 (a p) :: List.replicate (N.length - 2) .no) := by
  obtain ⟨bx, ws, p, G, rfl, dv, i⟩ := h.into N (by rw [BP.len (n := 1) (fun p => by rw [he]; rfl) h]; exact hN)
  rw [he] at dv i
  cases dv with
  | cons d1 r => cases r; exact ⟨p, bx, _, G, _, rfl, d1, i⟩
theorem BP.in0 (h : BP C enc pre Rr vs H Q E) (he : ∀ p, enc p = []) (N : List Str) (hN : 1 ≤ N.length) : ∃ p bx G e, vs = [.ref bx] ∧ InB enc pre Rr bx vs H Q N p G e (.b bx :: List.replicate (N.length - 1) .no) := by
  obtain ⟨bx, ws, p, G, rfl, dv, i⟩ := h.into N (by rw [BP.len (n := 0) (fun p => by rw [he]; rfl) h]; exact hN)
  rw [he] at dv i
  cases dv
  exact ⟨p, bx, G, _, rfl, i⟩
theorem BP.in2 (h : BP C enc pre Rr vs H Q E) {a b : α → PyData} (he : ∀ p, enc p = [a p, b p]) (N : List Str) (hN : 3 ≤ N.length) : ∃ p bx v1 v2 G e, vs = [.ref bx, v1, v2] ∧ Dg G v1 (a p) ∧ Dg G v2 (b p) ∧ InB enc pre Rr bx vs H Q N p G e (.b bx :: .p v1 (a p) :: .p v2 (b p) :: List.replicate (N.length - 3) .no) := by
  obtain ⟨bx, ws, p, G, rfl, dv, i⟩ := h.into N (by rw [BP.len (n := 2) (fun p => by rw [he]; rfl) h]; exact hN)
  rw [he] at dv i
  cases dv with
  | cons d1 r =>
    cases r with
    | cons d2 r => cases r; exact ⟨p, bx, _, _, G, _, rfl, d1, d2, i⟩
theorem BP.in3 (h : BP C enc pre Rr vs H Q E) {a b c : α → PyData} (he : ∀ p, enc p = [a p, b p, c p]) (N : List Str) (hN : 4 ≤ N.length) : ∃ p bx v1 v2 v3 G e, vs = [.ref bx, v1, v2, v3] ∧ Dg G v1 (a p) ∧ Dg G v2 (b p) ∧ Dg G v3 (c p) ∧ InB enc pre Rr bx vs H Q N p G e (.b bx :: .p v1 (a p) :: .p v2 (b p) :: .p v3 (c p) :: List.replicate (N.length - 4) .no) := by
  obtain ⟨bx, ws, p, G, rfl, dv, i⟩ := h.into N (by rw [BP.len (n := 3) (fun p => by rw [he]; rfl) h]; exact hN)
  rw [he] at dv i
  cases dv with
  | cons d1 r =>
    cases r with
    | cons d2 r =>
      cases r with
      | cons d3 r => cases r; exact ⟨p, bx, _, _, _, G, _, rfl, d1, d2, d3, i⟩
theorem BP.in5 (h : BP C enc pre Rr vs H Q E) {a b c d f : α → PyData} (he : ∀ p, enc p = [a p, b p, c p, d p, f p]) (N : List Str) (hN : 6 ≤ N.length) : ∃ p bx v1 v2 v3 v4 v5 G e, vs = [.ref bx, v1, v2, v3, v4, v5] ∧ Dg G v1 (a p) ∧ Dg G v2 (b p) ∧ Dg G v3 (c p) ∧ Dg G v4 (d p) ∧ Dg G v5 (f p) ∧ InB enc pre Rr bx vs H Q N p G e (.b bx :: .p v1 (a p) :: .p v2 (b p) :: .p v3 (c p) :: .p v4 (d p) :: .p v5 (f p) :: List.replicate (N.length - 6) .no) := by
  obtain ⟨bx, ws, p, G, rfl, dv, i⟩ := h.into N (by rw [BP.len (n := 5) (fun p => by rw [he]; rfl) h]; exact hN)
  rw [he] at dv i
  cases dv with
  | cons d1 r =>
    cases r with
    | cons d2 r =>
      cases r with
      | cons d3 r =>
        cases r with
        | cons d4 r =>
          cases r with
          | cons d5 r => cases r; exact ⟨p, bx, _, _, _, _, _, G, _, rfl, d1, d2, d3, d4, d5, i⟩
end
end DL
/-! what the law's own defs promise -/
namespace DL
open PySem L2
def optI (o : Option Int) : PyData := optD o
/-- a new box out of the script -/
def sp_law_box (K : PySem.W.Frag) (C : Addr) : Sp := fun vs H Q _ => ∃ (a : Addr) (ns : List Int) (k : Nat), vs = [.ref a, .int k] ∧ SqL K H a (ns.map V.int) ∧ k ≤ 1000 ∧ ∀ p H' x y, (∀ b o, H b = some o → H' b = some o) → H p = none → H' p = some (.lst [.int x, .int y]) → (∀ b, b ≠ p → H b = none → H' b = none) → Q (.ref p) H'
def sp_law_take (C : Addr) : Sp := BP C (fun n : Nat => [iD n]) (fun n => 0 < n ∧ n ≤ 100000) fun n d => ∃ k, k < n ∧ d = iD k
def sp_law_pick (C : Addr) : Sp := BP C (fun xs : List PyData => [.list xs]) (fun xs => 0 < xs.length ∧ xs.length ≤ 100000) fun xs d => ∃ k : Nat, xs[k]? = some d
def sp_law_net (C : Addr) : Sp := BP C (fun p : Nat × Nat => [iD p.1, iD p.2]) (fun p => 2 ≤ p.1 ∧ p.1 ≤ 100 ∧ p.2 ≤ 100) fun p d => ∃ n as, d = netD n as ∧ 2 ≤ n ∧ n ≤ p.1 ∧ FM.Wf n as ∧ as.length ≤ p.2
structure Lg where
  n : Nat
  as : List FM.Arc
  s : Nat
  t : Nat
  l : List Int
  u : Nat
  v : Nat
structure Exg (bx la : Addr) (G H G' H' : Hp) : Prop where
  g : Ex G G'
  h : ∀ a o, a ≠ bx → a ≠ la → H a = some o → H' a = some o
  b : ∃ i j, H' bx = some (.lst [.int i, .int j])
  s : Ex G' H'
  n : ∀ a, G' a ≠ none → G a ≠ none ∨ H a = none
/-- a path drawn and gone -/
def sp_law_gone (C : Addr) : Sp := fun vs H Q _ => ∃ (G : Hp) (p : Lg) (bx la : Addr) (v1 v3 v4 : V) (i j : Int), vs = [.ref bx, v1, .ref la, v3, v4] ∧ Ex G H ∧ G bx = none ∧ G la = none ∧ bx ≠ la ∧ H bx = some (.lst [.int i, .int j]) ∧ H la = some (.lst (p.l.map V.int)) ∧
  Dg G v1 (netD p.n p.as) ∧ Dg G v3 (iD p.u) ∧ Dg G v4 (iD p.v) ∧ NetOk p.n p.as ∧ p.u < p.n ∧ p.v < p.n ∧ FM.Flow p.n p.as p.s p.t p.l ∧ (p.u = p.v ∨ ((p.u = p.s ∨ p.u = p.t) ∧ (p.v = p.s ∨ p.v = p.t))) ∧
  ∀ G' H' l', FM.Flow p.n p.as p.s p.t l' → Exg bx la G H G' H' → H' la = some (.lst (l'.map V.int)) → Q .non H'
structure Nst where
  n : Nat
  as : List FM.Arc
  s : Nat
  t : Nat
def sp_law_flow (C : Addr) : Sp := BP C (fun p : Nst => [netD p.n p.as, iD p.s, iD p.t]) (fun p => NetOk p.n p.as ∧ p.s < p.n ∧ p.t < p.n) fun p d => ∃ l, FM.Flow p.n p.as p.s p.t l ∧ d = .list (l.map PyData.int)
def sp_law_more (C : Addr) : Sp := SP C (fun p : Ld × Nat => [netD p.1.n p.1.as, sqD p.1.b (p.1.l.map PyData.int), iD p.2]) (fun p => p.1.as.length ≤ 1000 ∧ p.1.l.length = p.1.as.length) never fun p d => d = .int (FM.sur p.1.as p.1.l p.2)
/-- None, or numbers -/
def vlD : Option (Bool × List Int) → PyData
  | none => .none
  | some (b, l) => sqD b (l.map PyData.int)
structure Lv where
  n : Nat
  as : List FM.Arc
  s : Nat
  t : Nat
  v : Option (Bool × List Int)
def VlSz : Option (Bool × List Int) → Prop
  | none => True
  | some (_, l) => l.length ≤ 2000
def sp_law_is_load (C : Addr) : Sp := SP C (fun p : Lv => [netD p.n p.as, vlD p.v]) (fun p => p.as.length ≤ 1000 ∧ VlSz p.v) never fun p d => d = .bool (isLoad p.as (vlD p.v))
def sp_law_is_flow (C : Addr) : Sp := SP C (fun p : Lv => [netD p.n p.as, iD p.s, iD p.t, vlD p.v]) (fun p => NetOk p.n p.as ∧ VlSz p.v) never fun p d => d = .bool (isFit p.n p.as p.s p.t (vlD p.v))
structure Lo where
  n : Nat
  as : List FM.Arc
  b : Bool
  L : List Nat
def sp_law_worth (C : Addr) : Sp := SP C (fun p : Lo => [netD p.n p.as, sqD p.b (p.L.map iD)]) (fun p => p.as.length ≤ 1000) never fun p d => d = optD (FM.cutw p.as (FM.memL p.L))
def lotD (p : Option Int × List Nat) : PyData := .tuple [optD p.1, .list (p.2.map iD)]
def sp_law_lots (C : Addr) : Sp := SP C (fun p : Nst => [netD p.n p.as, iD p.s, .list [iD p.t]]) (fun p => p.n ≤ 10 ∧ p.as.length ≤ 1000) never fun p d => d = .list ((FM.law_lots p.n p.s [p.t] p.as).map lotD)
def sp_law_best (C : Addr) : Sp := SP C (fun ws : List (Option Int × List Nat) => [.list (ws.map lotD)]) (fun ws => ws.length ≤ 100000) never fun ws d => ∃ o, FM.IsBest (ws.map (·.1)) o ∧ d = optD o
structure Lb where
  n : Nat
  as : List FM.Arc
  s : Nat
  t : Nat
  l : List Int
def sp_law_is_best (C : Addr) : Sp := SP C (fun p : Lb => [netD p.n p.as, iD p.s, iD p.t, .int (FM.sur p.as p.l p.t), intsT p.l]) (fun p => NetOk p.n p.as ∧ FM.Best p.n p.as p.s p.t p.l) never fun _ d => d = .bool true
structure Lr where
  n : Nat
  as : List FM.Arc
  b : Bool
  b2 : Bool
  l : List Int
  s : Nat
def sp_law_near (C : Addr) : Sp := SP C (fun p : Lr => [.tuple [iD p.n, sqD p.b (p.as.map arcD)], sqD p.b2 (p.l.map PyData.int), iD p.s]) (fun p => NetOk p.n p.as ∧ FM.Borne p.as p.l ∧ p.s < p.n) never fun p d => ∃ L : List Nat, L.Nodup ∧ (∀ v, v ∈ L ↔ FM.Reach p.as p.l p.s v) ∧ d = .list (L.map iD)
structure Lc where
  n : Nat
  as : List FM.Arc
  h : PyData
  s : Nat
  t : Nat
  o : Option Int
def HdOk (n : Nat) (as : List FM.Arc) (h : PyData) : Prop := NetSz h ∧ netOf h = some (n, as)
def sp_law_led_right (C : Addr) : Sp := BP C (fun p : Lc => [netD p.n p.as, p.h, iD p.s, iD p.t, optD p.o]) (fun p => NetOk p.n p.as ∧ HdOk p.n p.as p.h ∧ p.s < p.n ∧ p.t < p.n ∧ p.s ≠ p.t ∧ FM.IsBest ((FM.law_lots p.n p.s [p.t] p.as).map (·.1)) p.o) fun _ d => d = .bool true
def sp_law_cuts_right (C : Addr) : Sp := SP C (fun p : Lc => [netD p.n p.as, p.h, iD p.s, iD p.t, .list ((FM.law_lots p.n p.s [p.t] p.as).map lotD), optD p.o]) (fun p => NetOk p.n p.as ∧ p.n ≤ 10 ∧ HdOk p.n p.as p.h ∧ p.s < p.n ∧ p.t < p.n ∧ p.s ≠ p.t ∧ FM.IsBest ((FM.law_lots p.n p.s [p.t] p.as).map (·.1)) p.o) never fun _ d => d = .bool true
def sp_law_many_right (C : Addr) : Sp := BP C (fun _ : Unit => []) (fun _ => True) fun _ d => d = .bool true
end DL
/-! printed by gen.py: scopes, readings, derivations -/
namespace DL
open PySem PySem.Spec PyProof.Rows L2
section
variable {w : World} {K : PySem.W.Frag} {mg : Str → Option Value} {base : Heap}
abbrev s_law_box : Stmt := topS 44
theorem sc_law_box : FnScope ["_law_script", "_law_k", "_law_cell", "_law_great"] ["_law_script", "_law_k"] (defScope s_law_box) := ⟨rfl, rfl, rfl, by decide +kernel, rfl, by decide +kernel, by decide +kernel⟩
def t_law_box (K : PySem.W.Frag) (C : Addr) (E : XK) : TS :=
    (tSeq (tAsg (tOp (rI0 fun i j => .int (i + j)) (tOp (rI CMul fun i j => .int (i * j)) (tC (.int 5099)) (tVar 1)) (tC (.int 443))) (gName 2))
    (tSeq (tIfS (tTest (tOp (rI0 fun i j => .bl (decide (i < j))) (tVar 1) (tCB (rLen K) (tCons (tVar 0) tNil)))) (tAsg (tCB rAbs (tCons (tCB rInt (tCons (tOp (rIx K) (tVar 0) (tVar 1)) tNil)) tNil)) (gName 2)) (tIfS (tTest (tOp (rI0 fun i j => .bl (decide (j < i))) (tCB (rLen K) (tCons (tVar 0) tNil)) (tC (.int 0)))) (tAsg (tOp (rI0 fun i j => .int (i + j)) (tVar 2) (tOp (rI CMul fun i j => .int (i * j)) (tOp (rI (fun _ j => 0 < j) fun i j => .int (i % j)) (tCB rInt (tCons (tCB rAbs (tCons (tCB rInt (tCons (tOp (rIx K) (tVar 0) (tOp (rI (fun _ j => 0 < j) fun i j => .int (i % j)) (tCB rInt (tCons (tVar 1) tNil)) (tCB (rLen K) (tCons (tVar 0) tNil)))) tNil)) tNil)) tNil)) (tC (.int 2147483563))) (tC (.int 50051)))) (gName 2)) tNext))
    (tSeq (tAsg (tIf (tTest (tOp (rI0 fun i j => .bl (decide (j ≤ i))) (tVar 2) (tOp (rI CPow fun i j => .int (i ^ j.toNat)) (tC (.int 10)) (tC (.int 18))))) (tVar 2) (tC (.int 0))) (gName 3))
    (tRet (tLst (tCons (tVar 3) (tCons (tOp (rI0 fun i j => .int (i + j)) (tOp (rI (fun _ j => 0 < j) fun i j => .int (i % j)) (tCB rInt (tCons (tOp (rI0 fun i j => .int (i + j)) (tOp (rI CMul fun i j => .int (i * j)) (tOp (rI (fun _ j => 0 < j) fun i j => .int (i % j)) (tCB rInt (tCons (tVar 2) tNil)) (tC (.int 2147483563))) (tC (.int 58151))) (tOp (rI CMul fun i j => .int (i * j)) (tC (.int 811)) (tVar 1))) tNil)) (tC (.int 2147483563))) (tC (.int 1))) tNil)))))))
theorem d_law_box (T : Txt K mg)  (f : Addr) (cdv : Value) (A : Around) (outer : List Env) (s : Shared) (H : Hp) (E : XK) (hr : Room 0 (A.deeper (envOfC "_law_box" (defScope s_law_box) s.heap.objs.size f cdv))) :
    PSs (cxOf (L2.CX PG w) PG w K mg base ["_law_script", "_law_k", "_law_cell", "_law_great"] "_law_box" (defScope s_law_box) f cdv A outer s H E).nox (defBody s_law_box) (t_law_box K T.C E) :=
    (pss_cons (ps_set (i := 2) sc_law_box.nd rfl (Or.inl rfl) (pe_op op_add (pe_op op_mul pe_int (pv 1)) pe_int))
      (pss_cons (ps_if (pt_cmpR op_lt (pv 1) (pe_callB call_len_seq (by rfl) T.mg_len bt_len (pa_cons (pv 0) pa_nil)) (nomark _)) (pss_one (ps_set (i := 2) sc_law_box.nd rfl (Or.inl rfl) (pe_callB call_abs (by rfl) T.mg_abs bt_abs (pa_cons (pe_callTy call_int1 (by rfl) T.mg_int bt_int (pa_cons (pe_ix ix_seq (pv 0) (pv 1) (fun _ _ => rfl)) pa_nil)) pa_nil)))) (pss_one (ps_if (pt_cmpR op_gt (pe_callB call_len_seq (by rfl) T.mg_len bt_len (pa_cons (pv 0) pa_nil)) pe_int (nomark _)) (pss_one (ps_set (i := 2) sc_law_box.nd rfl (Or.inl rfl) (pe_op op_add (pv 2) (pe_op op_mul (pe_op op_mod (pe_callTy call_int1 (by rfl) T.mg_int bt_int (pa_cons (pe_callB call_abs (by rfl) T.mg_abs bt_abs (pa_cons (pe_callTy call_int1 (by rfl) T.mg_int bt_int (pa_cons (pe_ix ix_seq (pv 0) (pe_op op_mod (pe_callTy call_int1 (by rfl) T.mg_int bt_int (pa_cons (pv 1) pa_nil)) (pe_callB call_len_seq (by rfl) T.mg_len bt_len (pa_cons (pv 0) pa_nil))) (fun _ _ => rfl)) pa_nil)) pa_nil)) pa_nil)) pe_int) pe_int)))) pss_nil)))
      (pss_cons (ps_set (i := 3) sc_law_box.nd rfl (Or.inl rfl) (pe_ifExp (pt_cmpR op_ge (pv 2) (pe_op op_pow pe_int pe_int) (nomark _)) (pv 2) pe_int))
      (pss_one (ps_ret (pe_lst (pa_cons (pv 3) (pa_cons (pe_op op_add (pe_op op_mod (pe_callTy call_int1 (by rfl) T.mg_int bt_int (pa_cons (pe_op op_add (pe_op op_mul (pe_op op_mod (pe_callTy call_int1 (by rfl) T.mg_int bt_int (pa_cons (pv 2) pa_nil)) pe_int) pe_int) (pe_op op_mul pe_int (pv 1))) pa_nil)) pe_int) pe_int) pa_nil))))))))
abbrev s_law_take : Stmt := topS 45
theorem sc_law_take : FnScope ["_law_box_here", "_law_many", "_law_digit", "_law_raw"] ["_law_box_here", "_law_many"] (defScope s_law_take) := ⟨rfl, rfl, rfl, by decide +kernel, rfl, by decide +kernel, by decide +kernel⟩
def t_law_take (K : PySem.W.Frag) (C : Addr) (E : XK) : TS :=
    (tSeq (tIfS (tTest (tOp (rI0 fun i j => .bl (decide (j < i))) (tOp (rIx K) (tVar 0) (tC (.int 0))) (tC (.int 0)))) (tSeq (tAsg (tOp (rI (fun _ j => 0 < j) fun i j => .int (i % j)) (tCB rInt (tCons (tOp (rIx K) (tVar 0) (tC (.int 0))) tNil)) (tVar 1)) (gName 2))
    (tSeq (tAsg (tOp (rI CDiv fun i j => .int (i / j)) (tOp (rIx K) (tVar 0) (tC (.int 0))) (tVar 1)) (gSub (tVar 0) (tC (.int 0)) rSetL))
    (tRet (tVar 2)))) tNext)
    (tSeq (tAsg (tOp (rI (fun _ j => 0 < j) fun i j => .int (i % j)) (tCB rInt (tCons (tOp (rI0 fun i j => .int (i + j)) (tOp (rI CMul fun i j => .int (i * j)) (tOp (rIx K) (tVar 0) (tC (.int 1))) (tC (.int 39373))) (tC (.int 71))) tNil)) (tC (.int 2147483647))) (gName 3))
    (tSeq (tAsg (tOp (rI0 fun i j => .int (i + j)) (tOp (rI (fun _ j => 0 < j) fun i j => .int (i % j)) (tCB rInt (tCons (tOp (rI0 fun i j => .int (i + j)) (tOp (rI CMul fun i j => .int (i * j)) (tVar 3) (tC (.int 40692))) (tC (.int 37))) tNil)) (tC (.int 2147483563))) (tC (.int 1))) (gSub (tVar 0) (tC (.int 1)) rSetL))
    (tRet (tOp (rI (fun _ j => 0 < j) fun i j => .int (i % j)) (tCB rInt (tCons (tOp (rI CDiv fun i j => .int (i / j)) (tOp (rI0 fun i j => .int (i + j)) (tOp (rI CMul fun i j => .int (i * j)) (tVar 3) (tC (.int 2147483629))) (tOp (rIx K) (tVar 0) (tC (.int 1)))) (tC (.int 8233))) tNil)) (tVar 1))))))
theorem d_law_take (T : Txt K mg)  (f : Addr) (cdv : Value) (A : Around) (outer : List Env) (s : Shared) (H : Hp) (E : XK) (hr : Room 0 (A.deeper (envOfC "_law_take" (defScope s_law_take) s.heap.objs.size f cdv))) :
    PSs (cxOf (L2.CX PG w) PG w K mg base ["_law_box_here", "_law_many", "_law_digit", "_law_raw"] "_law_take" (defScope s_law_take) f cdv A outer s H E).nox (defBody s_law_take) (t_law_take K T.C E) :=
    (pss_cons (ps_if (pt_cmpR op_gt (pe_ix ix_seq (pv 0) pe_int (fun _ _ => rfl)) pe_int (nomark _)) (pss_cons (ps_set (i := 2) sc_law_take.nd rfl (Or.inl rfl) (pe_op op_mod (pe_callTy call_int1 (by rfl) T.mg_int bt_int (pa_cons (pe_ix ix_seq (pv 0) pe_int (fun _ _ => rfl)) pa_nil)) (pv 1)))
      (pss_cons (ps_asg (pe_op op_fdiv (pe_ix ix_seq (pv 0) pe_int (fun _ _ => rfl)) (pv 1)) (pg_sub (pv 0) pe_int set_list))
      (pss_one (ps_ret (pv 2))))) pss_nil)
      (pss_cons (ps_set (i := 3) sc_law_take.nd rfl (Or.inl rfl) (pe_op op_mod (pe_callTy call_int1 (by rfl) T.mg_int bt_int (pa_cons (pe_op op_add (pe_op op_mul (pe_ix ix_seq (pv 0) pe_int (fun _ _ => rfl)) pe_int) pe_int) pa_nil)) pe_int))
      (pss_cons (ps_asg (pe_op op_add (pe_op op_mod (pe_callTy call_int1 (by rfl) T.mg_int bt_int (pa_cons (pe_op op_add (pe_op op_mul (pv 3) pe_int) pe_int) pa_nil)) pe_int) pe_int) (pg_sub (pv 0) pe_int set_list))
      (pss_one (ps_ret (pe_op op_mod (pe_callTy call_int1 (by rfl) T.mg_int bt_int (pa_cons (pe_op op_fdiv (pe_op op_add (pe_op op_mul (pv 3) pe_int) (pe_ix ix_seq (pv 0) pe_int (fun _ _ => rfl))) pe_int) pa_nil)) (pv 1)))))))
abbrev s_law_pick : Stmt := topS 46
theorem sc_law_pick : FnScope ["_law_box_here", "_law_some"] ["_law_box_here", "_law_some"] (defScope s_law_pick) := ⟨rfl, rfl, rfl, by decide +kernel, rfl, by decide +kernel, by decide +kernel⟩
def t_law_pick (K : PySem.W.Frag) (C : Addr) (E : XK) : TS :=
    (tRet (tOp (rIx K) (tVar 1) (tCall (sp_law_take C) [] E0 (tCons (tVar 0) (tCons (tCB (rLen K) (tCons (tVar 1) tNil)) tNil)))))
theorem d_law_pick (T : Txt K mg) (G_law_take : FnOk PG w K mg base (L2.CX PG w) 1 T.f_law_take.f T.f_law_take.fd ["_law_box_here", "_law_many"] (sp_law_take T.C)) (f : Addr) (cdv : Value) (A : Around) (outer : List Env) (s : Shared) (H : Hp) (E : XK) (hr : Room 1 (A.deeper (envOfC "_law_pick" (defScope s_law_pick) s.heap.objs.size f cdv))) :
    PSs (cxOf (L2.CX PG w) PG w K mg base ["_law_box_here", "_law_some"] "_law_pick" (defScope s_law_pick) f cdv A outer s H E).nox (defBody s_law_pick) (t_law_pick K T.C E) :=
    (pss_one (ps_ret (pe_ix ix_seq (pv 1) (pe_call G_law_take (hr.mono (by decide)) rfl T.f_law_take.g T.f_law_take.F.kp T.f_law_take.b .nil passL (pa_cons (pv 0) (pa_cons (pe_callB call_len_seq (by rfl) T.mg_len bt_len (pa_cons (pv 1) pa_nil)) pa_nil))) (fun _ _ => rfl))))
abbrev s_law_net : Stmt := topS 48
theorem sc_law_net : FnScope ["_law_box_here", "_law_nodes", "_law_most", "_law_many", "_law_found", "_law_turn", "_law_tail", "_law_head", "_law_bears", "_law_arc"] ["_law_box_here", "_law_nodes", "_law_most"] (defScope s_law_net) := ⟨rfl, rfl, rfl, by decide +kernel, rfl, by decide +kernel, by decide +kernel⟩
def t_law_net (K : PySem.W.Frag) (C : Addr) (E : XK) : TS :=
    (tSeq (tAsg (tOp (rI0 fun i j => .int (i + j)) (tC (.int 2)) (tCall (sp_law_take C) [] E0 (tCons (tVar 0) (tCons (tOp (rI0 fun i j => .int (i - j)) (tVar 1) (tC (.int 1))) tNil)))) (gName 3))
    (tSeq (tAsg (tLst tNil) (gName 4))
    (tSeq (tFor (iRng1 (tCons (tCall (sp_law_take C) [] E0 (tCons (tVar 0) (tCons (tOp (rI0 fun i j => .int (i + j)) (tVar 2) (tC (.int 1))) tNil))) tNil)) (gName 5) (tSeq (tPar 6 7 (tCons (tCall (sp_law_take C) [] E0 (tCons (tVar 0) (tCons (tVar 3) tNil))) (tCons (tCall (sp_law_take C) [] E0 (tCons (tVar 0) (tCons (tVar 3) tNil))) tNil)))
    (tSeq (tIfS (tTest (tOp (rI0 fun i j => .bl (decide (j < i))) (tOp (rI (fun _ j => 0 < j) fun i j => .int (i % j)) (tVar 5) (tC (.int 3))) (tC (.int 0)))) (tAsg (tCall (sp_law_pick C) [] E0 (tCons (tVar 0) (tCons (tOp rCat (tLst (tCons (tC (.int 0)) tNil)) (tLc (iSeq K (tVar 4)) (gName 9) tYes (tOp (rIx K) (tVar 9) (tC (.int 1))) [9])) tNil))) (gName 6)) tNext)
    (tSeq (tAsg (tCall (sp_law_pick C) [] E0 (tCons (tVar 0) (tCons (tLst (tCons (tC (.int 0)) (tCons (tC (.int 1)) (tCons (tC (.int 1)) (tCons (tC (.int 2)) (tCons (tC (.int 3)) (tCons (tC (.int 5)) tNil))))))) tNil))) (gName 8))
    (tDrop (tBM K "list" rAppend (tVar 4) (tCons (tTup (tCons (tVar 6) (tCons (tVar 7) (tCons (tIf (tTest (tOp (rI0 fun i j => .bl (decide (j < i))) (tCall (sp_law_take C) [] E0 (tCons (tVar 0) (tCons (tC (.int 12)) tNil))) (tC (.int 0)))) (tVar 8) (tCall (sp_law_pick C) [] E0 (tCons (tVar 0) (tCons (tLst (tCons (tC .non) (tCons (tC .non) (tCons (tOp (rI CPow fun i j => .int (i ^ j.toNat)) (tC (.int 10)) (tC (.int 8))) tNil)))) tNil)))) tNil)))) tNil)))))))
    (tRet (tTup (tCons (tVar 3) (tCons (tCB (rTupOf K) (tCons (tVar 4) tNil)) tNil)))))))
theorem d_law_net (T : Txt K mg) (G_law_take : FnOk PG w K mg base (L2.CX PG w) 1 T.f_law_take.f T.f_law_take.fd ["_law_box_here", "_law_many"] (sp_law_take T.C)) (G_law_pick : FnOk PG w K mg base (L2.CX PG w) 2 T.f_law_pick.f T.f_law_pick.fd ["_law_box_here", "_law_some"] (sp_law_pick T.C)) (f : Addr) (cdv : Value) (A : Around) (outer : List Env) (s : Shared) (H : Hp) (E : XK) (hr : Room 2 (A.deeper (envOfC "_law_net" (defScope s_law_net) s.heap.objs.size f cdv))) :
    PSs (cxOf (L2.CX PG w) PG w K mg base ["_law_box_here", "_law_nodes", "_law_most", "_law_many", "_law_found", "_law_turn", "_law_tail", "_law_head", "_law_bears", "_law_arc"] "_law_net" (defScope s_law_net) f cdv A outer s H E).nox (defBody s_law_net) (t_law_net K T.C E) :=
    (pss_cons (ps_set (i := 3) sc_law_net.nd rfl (Or.inl rfl) (pe_op op_add pe_int (pe_call G_law_take (hr.mono (by decide)) rfl T.f_law_take.g T.f_law_take.F.kp T.f_law_take.b .nil passL (pa_cons (pv 0) (pa_cons (pe_op op_sub (pv 1) pe_int) pa_nil)))))
      (pss_cons (ps_set (i := 4) sc_law_net.nd rfl (Or.inl rfl) (pe_lst pa_nil))
      (pss_cons (ps_for PassesOwn.never rfl (pi_range1 rfl T.mg_range (pa_cons (pe_call G_law_take (hr.mono (by decide)) rfl T.f_law_take.g T.f_law_take.F.kp T.f_law_take.b .nil passL (pa_cons (pv 0) (pa_cons (pe_op op_add (pv 2) pe_int) pa_nil))) pa_nil)) (pg_name (i := 5) sc_law_net.nd rfl (Or.inl rfl)) (pss_cons (ps_par (i := 6) (j := 7) rfl sc_law_net.nd rfl rfl (by decide) rfl rfl (pa_cons (pe_call G_law_take (hr.mono (by decide)) rfl T.f_law_take.g T.f_law_take.F.kp T.f_law_take.b .nil passL (pa_cons (pv 0) (pa_cons (pv 3) pa_nil))) (pa_cons (pe_call G_law_take (hr.mono (by decide)) rfl T.f_law_take.g T.f_law_take.F.kp T.f_law_take.b .nil passL (pa_cons (pv 0) (pa_cons (pv 3) pa_nil))) pa_nil)) (by rfl))
      (pss_cons (ps_if (pt_cmpR op_gt (pe_op op_mod (pv 5) pe_int) pe_int (nomark _)) (pss_one (ps_set (i := 6) sc_law_net.nd rfl (Or.inl rfl) (pe_call G_law_pick (hr.mono (by decide)) rfl T.f_law_pick.g T.f_law_pick.F.kp T.f_law_pick.b .nil passL (pa_cons (pv 0) (pa_cons (pe_op op_cat (pe_lst (pa_cons pe_int pa_nil)) (pe_lc (own := [("_law_arc", 9)]) (g := (gName 9)) (tt := tYes) rfl sc_law_net.nd (pi_seq (pv 4)) (blkOk_by (N := ["_law_box_here", "_law_nodes", "_law_most", "_law_many", "_law_found", "_law_turn", "_law_tail", "_law_head", "_law_bears", "_law_arc"]) (sc := defScope s_law_net) (by decide +kernel)) (fun _ _ _ _ _ => (pg_name (i := 9) sc_law_net.nd rfl (by first | exact Or.inl rfl | exact Or.inr rfl))) (fun _ _ _ _ _ => pts_nil) (fun _ _ _ _ _ => (pe_ix ix_seq (pv 9) pe_int (fun _ _ => rfl))))) pa_nil))))) pss_nil)
      (pss_cons (ps_set (i := 8) sc_law_net.nd rfl (Or.inl rfl) (pe_call G_law_pick (hr.mono (by decide)) rfl T.f_law_pick.g T.f_law_pick.F.kp T.f_law_pick.b .nil passL (pa_cons (pv 0) (pa_cons (pe_lst (pa_cons pe_int (pa_cons pe_int (pa_cons pe_int (pa_cons pe_int (pa_cons pe_int (pa_cons pe_int pa_nil))))))) pa_nil))))
      (pss_one (ps_expr (pe_bm PySem.F.plainAttrs_list PySem.F.slot_list_append PySem.F.type_list_append mt_append (pv 4) (pa_cons (pe_tup (pa_cons (pv 6) (pa_cons (pv 7) (pa_cons (pe_ifExp (pt_cmpR op_gt (pe_call G_law_take (hr.mono (by decide)) rfl T.f_law_take.g T.f_law_take.F.kp T.f_law_take.b .nil passL (pa_cons (pv 0) (pa_cons pe_int pa_nil))) pe_int (nomark _)) (pv 8) (pe_call G_law_pick (hr.mono (by decide)) rfl T.f_law_pick.g T.f_law_pick.F.kp T.f_law_pick.b .nil passL (pa_cons (pv 0) (pa_cons (pe_lst (pa_cons pe_non (pa_cons pe_non (pa_cons (pe_op op_pow pe_int pe_int) pa_nil)))) pa_nil)))) pa_nil)))) pa_nil))))))))
      (pss_one (ps_ret (pe_tup (pa_cons (pv 3) (pa_cons (pe_callTy call_tuple_of (by rfl) T.mg_tuple bt_tuple (pa_cons (pv 4) pa_nil)) pa_nil))))))))
abbrev s_law_gone : Stmt := topS 49
theorem sc_law_gone : FnScope ["_law_box_here", "_law_net_here", "_law_load", "_law_start_here", "_law_goal", "_law_many", "_law_arcs", "_law_here", "_law_gone_here", "_law_turn", "_law_some", "_law_at"] ["_law_box_here", "_law_net_here", "_law_load", "_law_start_here", "_law_goal"] (defScope s_law_gone) := ⟨rfl, rfl, rfl, by decide +kernel, rfl, by decide +kernel, by decide +kernel⟩
def t_law_gone (K : PySem.W.Frag) (C : Addr) (E : XK) : TS :=
    (tSeq (tAsg (tVar 1) (gTup K 2 (gCons (gName 5) (gCons (gName 6) gNil))))
    (tSeq (tAsg (tTup (tCons (tVar 3) (tCons (tLst tNil) tNil))) (gTup K 2 (gCons (gName 7) (gCons (gName 8) gNil))))
    (tFor (iRng1 (tCons (tOp (rI CMul fun i j => .int (i * j)) (tC (.int 2)) (tVar 5)) tNil)) (gName 9) (tSeq (tAsg (tLc (iRng1 (tCons (tCB (rLen K) (tCons (tVar 6) tNil)) tNil)) (gName 11) (tAnd (tTest (tOp (rEqD K) (tOp (rIx K) (tOp (rIx K) (tVar 6) (tVar 11)) (tC (.int 0))) (tVar 7))) (tTest (tOp (rIn K true) (tVar 11) (tVar 8)))) (tVar 11) [11]) (gName 10))
    (tSeq (tAsg (tLc (iSeq K (tVar 10)) (gName 11) (tOr (tTest (tOp (fun x y H Q => y = .non ∧ Q (.bl (decide (x = .non))) H) (tOp (rIx K) (tOp (rIx K) (tVar 6) (tVar 11)) (tC (.int 2))) (tC .non))) (tTest (tOp (rI0 fun i j => .bl (decide (i < j))) (tOp (rIx K) (tVar 2) (tVar 11)) (tOp (rIx K) (tOp (rIx K) (tVar 6) (tVar 11)) (tC (.int 2)))))) (tVar 11) [11]) (gName 10))
    (tSeq (tIfS (tTest (tOp (rEqD K) (tVar 10) (tLst tNil))) tRetN tNext)
    (tSeq (tDrop (tBM K "list" rAppend (tVar 8) (tCons (tCall (sp_law_pick C) [] E0 (tCons (tVar 0) (tCons (tVar 10) tNil))) tNil)))
    (tSeq (tAsg (tOp (rIx K) (tOp (rIx K) (tVar 6) (tOp (rIx K) (tVar 8) (tUn (rU fun i => .int (-i)) (tC (.int 1))))) (tC (.int 1))) (gName 7))
    (tIfS (tTest (tOp (rEqD K) (tVar 7) (tVar 4))) (tSeq (tFor (iSeq K (tVar 8)) (gName 11) (tAugS (tVar 2) (tVar 11) (tC (.int 1)) (rIxL K) (ipI fun i j => i + j) rSetL))
    tRetN) tNext)))))))))
theorem d_law_gone (T : Txt K mg) (G_law_pick : FnOk PG w K mg base (L2.CX PG w) 2 T.f_law_pick.f T.f_law_pick.fd ["_law_box_here", "_law_some"] (sp_law_pick T.C)) (f : Addr) (cdv : Value) (A : Around) (outer : List Env) (s : Shared) (H : Hp) (E : XK) (hr : Room 2 (A.deeper (envOfC "_law_gone" (defScope s_law_gone) s.heap.objs.size f cdv))) :
    PSs (cxOf (L2.CX PG w) PG w K mg base ["_law_box_here", "_law_net_here", "_law_load", "_law_start_here", "_law_goal", "_law_many", "_law_arcs", "_law_here", "_law_gone_here", "_law_turn", "_law_some", "_law_at"] "_law_gone" (defScope s_law_gone) f cdv A outer s H E).nox (defBody s_law_gone) (t_law_gone K T.C E) :=
    (pss_cons (ps_asg (pv 1) (pg_tup rfl (pgs_cons (pg_name (i := 5) sc_law_gone.nd rfl (Or.inl rfl)) (pgs_cons (pg_name (i := 6) sc_law_gone.nd rfl (Or.inr rfl)) pgs_nil))))
      (pss_cons (ps_asg (pe_tup (pa_cons (pv 3) (pa_cons (pe_lst pa_nil) pa_nil))) (pg_tup rfl (pgs_cons (pg_name (i := 7) sc_law_gone.nd rfl (Or.inr rfl)) (pgs_cons (pg_name (i := 8) sc_law_gone.nd rfl (Or.inr rfl)) pgs_nil))))
      (pss_one (ps_for PassesOwn.never rfl (pi_range1 rfl T.mg_range (pa_cons (pe_op op_mul pe_int (pv 5)) pa_nil)) (pg_name (i := 9) sc_law_gone.nd rfl (Or.inl rfl)) (pss_cons (ps_setLc (i := 10) (own := [("_law_at", 11)]) (g := (gName 11)) (tt := (tAnd (tTest (tOp (rEqD K) (tOp (rIx K) (tOp (rIx K) (tVar 6) (tVar 11)) (tC (.int 0))) (tVar 7))) (tTest (tOp (rIn K true) (tVar 11) (tVar 8))))) rfl sc_law_gone.nd rfl rfl (sw_true rfl rfl rfl (by decide +kernel)) (pi_range1 rfl T.mg_range (pa_cons (pe_callB call_len_seq (by rfl) T.mg_len bt_len (pa_cons (pv 6) pa_nil)) pa_nil)) (blkOk_by (N := ["_law_box_here", "_law_net_here", "_law_load", "_law_start_here", "_law_goal", "_law_many", "_law_arcs", "_law_here", "_law_gone_here", "_law_turn", "_law_some", "_law_at"]) (sc := defScope s_law_gone) (by decide +kernel)) (fun _ _ _ _ _ => (pg_name (i := 11) sc_law_gone.nd rfl (by first | exact Or.inl rfl | exact Or.inr rfl))) (fun _ _ _ _ _ => (pts_one (PW.pt (pw_and (pt_cmpR (op_eqD hr.units) (pe_ix ix_seq (pe_ix ix_seq (pv 6) (pv 11) (fun _ _ => rfl)) pe_int (fun _ _ => rfl)) (pv 7) (nomark _)) (pw_and1 (pt_cmpR op_notIn_seq (pv 11) (pv 8) (by with_unfolding_all rfl))))))) (fun _ _ _ _ _ => (pv 11)))
      (pss_cons (ps_setLc (i := 10) (own := [("_law_at", 11)]) (g := (gName 11)) (tt := (tOr (tTest (tOp (fun x y H Q => y = .non ∧ Q (.bl (decide (x = .non))) H) (tOp (rIx K) (tOp (rIx K) (tVar 6) (tVar 11)) (tC (.int 2))) (tC .non))) (tTest (tOp (rI0 fun i j => .bl (decide (i < j))) (tOp (rIx K) (tVar 2) (tVar 11)) (tOp (rIx K) (tOp (rIx K) (tVar 6) (tVar 11)) (tC (.int 2))))))) rfl sc_law_gone.nd rfl rfl (sw_true rfl rfl rfl (by decide +kernel)) (pi_seq (pv 10)) (blkOk_by (N := ["_law_box_here", "_law_net_here", "_law_load", "_law_start_here", "_law_goal", "_law_many", "_law_arcs", "_law_here", "_law_gone_here", "_law_turn", "_law_some", "_law_at"]) (sc := defScope s_law_gone) (by decide +kernel)) (fun _ _ _ _ _ => (pg_name (i := 11) sc_law_gone.nd rfl (by first | exact Or.inl rfl | exact Or.inr rfl))) (fun _ _ _ _ _ => (pts_one (PW.pt (pw_or (pt_cmpR op_isN (pe_ix ix_seq (pe_ix ix_seq (pv 6) (pv 11) (fun _ _ => rfl)) pe_int (fun _ _ => rfl)) pe_non (nomark _)) (pw_or1 (pt_cmpR op_lt (pe_ix ix_seq (pv 2) (pv 11) (fun _ _ => rfl)) (pe_ix ix_seq (pe_ix ix_seq (pv 6) (pv 11) (fun _ _ => rfl)) pe_int (fun _ _ => rfl)) (nomark _))))))) (fun _ _ _ _ _ => (pv 11)))
      (pss_cons (ps_if (pt_cmpR (op_eqD hr.units) (pv 10) (pe_lst pa_nil) (nomark _)) (pss_one ps_retN) pss_nil)
      (pss_cons (ps_expr (pe_bm PySem.F.plainAttrs_list PySem.F.slot_list_append PySem.F.type_list_append mt_append (pv 8) (pa_cons (pe_call G_law_pick (hr.mono (by decide)) rfl T.f_law_pick.g T.f_law_pick.F.kp T.f_law_pick.b .nil passL (pa_cons (pv 0) (pa_cons (pv 10) pa_nil))) pa_nil)))
      (pss_cons (ps_set (i := 7) sc_law_gone.nd rfl (Or.inr rfl) (pe_ix ix_seq (pe_ix ix_seq (pv 6) (pe_ix ix_seq (pv 8) (pe_un un_neg pe_int) (fun _ _ => rfl)) (fun _ _ => rfl)) pe_int (fun _ _ => rfl)))
      (pss_one (ps_if (pt_cmpR (op_eqD hr.units) (pv 7) (pv 4) (nomark _)) (pss_cons (ps_for PassesOwn.never rfl (pi_seq (pv 8)) (pg_name (i := 11) sc_law_gone.nd rfl (Or.inl rfl)) (pss_one (ps_augS (pv 2) (pv 11) get_list pe_int ip_add set_list)))
      (pss_one ps_retN)) pss_nil)))))))))))
abbrev s_law_flow : Stmt := topS 50
theorem sc_law_flow : FnScope ["_law_box_here", "_law_net_here", "_law_start_here", "_law_goal", "_law_load", "_law_turned", "_law_turn", "_law_node", "_law_arc"] ["_law_box_here", "_law_net_here", "_law_start_here", "_law_goal"] (defScope s_law_flow) := ⟨rfl, rfl, rfl, by decide +kernel, rfl, by decide +kernel, by decide +kernel⟩
def t_law_flow (K : PySem.W.Frag) (C : Addr) (E : XK) : TS :=
    (tSeq (tAsg (tLc (iSeq K (tOp (rIx K) (tVar 1) (tC (.int 1)))) (gName 8) tYes (tC (.int 0)) [8]) (gName 4))
    (tSeq (tAsg (tOp (rEqD K) (tCall (sp_law_take C) [] E0 (tCons (tVar 0) (tCons (tC (.int 6)) tNil))) (tC (.int 0))) (gName 5))
    (tSeq (tFor (iRng1 (tCons (tCall (sp_law_take C) [] E0 (tCons (tVar 0) (tCons (tC (.int 6)) tNil))) tNil)) (gName 6) (tIfS (tTest (tOp (rEqD K) (tCall (sp_law_take C) [] E0 (tCons (tVar 0) (tCons (tC (.int 4)) tNil))) (tC (.int 0)))) (tSeq (tAsg (tCall (sp_law_take C) [] E0 (tCons (tVar 0) (tCons (tOp (rIx K) (tVar 1) (tC (.int 0))) tNil))) (gName 7))
    (tDrop (tCall (sp_law_gone C) [] E0 (tCons (tVar 0) (tCons (tVar 1) (tCons (tVar 4) (tCons (tVar 7) (tCons (tVar 7) tNil)))))))) (tIfS (tB (tVar 5)) (tDrop (tCall (sp_law_gone C) [] E0 (tCons (tVar 0) (tCons (tVar 1) (tCons (tVar 4) (tCons (tVar 3) (tCons (tVar 2) tNil))))))) (tDrop (tCall (sp_law_gone C) [] E0 (tCons (tVar 0) (tCons (tVar 1) (tCons (tVar 4) (tCons (tVar 2) (tCons (tVar 3) tNil))))))))))
    (tRet (tVar 4)))))
theorem d_law_flow (T : Txt K mg) (G_law_take : FnOk PG w K mg base (L2.CX PG w) 1 T.f_law_take.f T.f_law_take.fd ["_law_box_here", "_law_many"] (sp_law_take T.C)) (G_law_gone : FnOk PG w K mg base (L2.CX PG w) 3 T.f_law_gone.f T.f_law_gone.fd ["_law_box_here", "_law_net_here", "_law_load", "_law_start_here", "_law_goal"] (sp_law_gone T.C)) (f : Addr) (cdv : Value) (A : Around) (outer : List Env) (s : Shared) (H : Hp) (E : XK) (hr : Room 3 (A.deeper (envOfC "_law_flow" (defScope s_law_flow) s.heap.objs.size f cdv))) :
    PSs (cxOf (L2.CX PG w) PG w K mg base ["_law_box_here", "_law_net_here", "_law_start_here", "_law_goal", "_law_load", "_law_turned", "_law_turn", "_law_node", "_law_arc"] "_law_flow" (defScope s_law_flow) f cdv A outer s H E).nox (defBody s_law_flow) (t_law_flow K T.C E) :=
    (pss_cons (ps_setLc (i := 4) (own := [("_law_arc", 8)]) (g := (gName 8)) (tt := tYes) rfl sc_law_flow.nd rfl rfl (sw_true rfl rfl rfl (by decide +kernel)) (pi_seq (pe_ix ix_seq (pv 1) pe_int (fun _ _ => rfl))) (blkOk_by (N := ["_law_box_here", "_law_net_here", "_law_start_here", "_law_goal", "_law_load", "_law_turned", "_law_turn", "_law_node", "_law_arc"]) (sc := defScope s_law_flow) (by decide +kernel)) (fun _ _ _ _ _ => (pg_name (i := 8) sc_law_flow.nd rfl (by first | exact Or.inl rfl | exact Or.inr rfl))) (fun _ _ _ _ _ => pts_nil) (fun _ _ _ _ _ => pe_int))
      (pss_cons (ps_set (i := 5) sc_law_flow.nd rfl (Or.inl rfl) (pe_cmpR (op_eqD hr.units) (pe_call G_law_take (hr.mono (by decide)) rfl T.f_law_take.g T.f_law_take.F.kp T.f_law_take.b .nil passL (pa_cons (pv 0) (pa_cons pe_int pa_nil))) pe_int (nomark _)))
      (pss_cons (ps_for PassesOwn.never rfl (pi_range1 rfl T.mg_range (pa_cons (pe_call G_law_take (hr.mono (by decide)) rfl T.f_law_take.g T.f_law_take.F.kp T.f_law_take.b .nil passL (pa_cons (pv 0) (pa_cons pe_int pa_nil))) pa_nil)) (pg_name (i := 6) sc_law_flow.nd rfl (Or.inl rfl)) (pss_one (ps_if (pt_cmpR (op_eqD hr.units) (pe_call G_law_take (hr.mono (by decide)) rfl T.f_law_take.g T.f_law_take.F.kp T.f_law_take.b .nil passL (pa_cons (pv 0) (pa_cons pe_int pa_nil))) pe_int (nomark _)) (pss_cons (ps_set (i := 7) sc_law_flow.nd rfl (Or.inl rfl) (pe_call G_law_take (hr.mono (by decide)) rfl T.f_law_take.g T.f_law_take.F.kp T.f_law_take.b .nil passL (pa_cons (pv 0) (pa_cons (pe_ix ix_seq (pv 1) pe_int (fun _ _ => rfl)) pa_nil))))
      (pss_one (ps_expr (pe_call G_law_gone (hr.mono (by decide)) rfl T.f_law_gone.g T.f_law_gone.F.kp T.f_law_gone.b .nil passL (pa_cons (pv 0) (pa_cons (pv 1) (pa_cons (pv 4) (pa_cons (pv 7) (pa_cons (pv 7) pa_nil))))))))) (pss_one (ps_if (pt_val (pv 5)) (pss_one (ps_expr (pe_call G_law_gone (hr.mono (by decide)) rfl T.f_law_gone.g T.f_law_gone.F.kp T.f_law_gone.b .nil passL (pa_cons (pv 0) (pa_cons (pv 1) (pa_cons (pv 4) (pa_cons (pv 3) (pa_cons (pv 2) pa_nil)))))))) (pss_one (ps_expr (pe_call G_law_gone (hr.mono (by decide)) rfl T.f_law_gone.g T.f_law_gone.F.kp T.f_law_gone.b .nil passL (pa_cons (pv 0) (pa_cons (pv 1) (pa_cons (pv 4) (pa_cons (pv 2) (pa_cons (pv 3) pa_nil)))))))))))))
      (pss_one (ps_ret (pv 4))))))
abbrev s_law_more : Stmt := topS 51
theorem sc_law_more : FnScope ["_law_net_here", "_law_load", "_law_node", "_law_some", "_law_at"] ["_law_net_here", "_law_load", "_law_node"] (defScope s_law_more) := ⟨rfl, rfl, rfl, by decide +kernel, rfl, by decide +kernel, by decide +kernel⟩
def t_law_more (K : PySem.W.Frag) (C : Addr) (E : XK) : TS :=
    (tSeq (tAsg (tLc (iRng1 (tCons (tCB (rLen K) (tCons (tVar 1) tNil)) tNil)) (gName 4) (tTest (tOp (rEqD K) (tOp (rIx K) (tOp (rIx K) (tOp (rIx K) (tVar 0) (tC (.int 1))) (tVar 4)) (tC (.int 1))) (tVar 2))) (tOp (rIx K) (tVar 1) (tVar 4)) [4]) (gName 3))
    (tRet (tOp (rI0 fun i j => .int (i - j)) (tCB (rSum K) (tCons (tVar 3) tNil)) (tCB (rSum K) (tCons (tLc (iRng1 (tCons (tCB (rLen K) (tCons (tVar 1) tNil)) tNil)) (gName 4) (tTest (tOp (rEqD K) (tOp (rIx K) (tOp (rIx K) (tOp (rIx K) (tVar 0) (tC (.int 1))) (tVar 4)) (tC (.int 0))) (tVar 2))) (tOp (rIx K) (tVar 1) (tVar 4)) [4]) tNil)))))
theorem d_law_more (T : Txt K mg)  (f : Addr) (cdv : Value) (A : Around) (outer : List Env) (s : Shared) (H : Hp) (E : XK) (hr : Room 0 (A.deeper (envOfC "_law_more" (defScope s_law_more) s.heap.objs.size f cdv))) :
    PSs (cxOf (L2.CX PG w) PG w K mg base ["_law_net_here", "_law_load", "_law_node", "_law_some", "_law_at"] "_law_more" (defScope s_law_more) f cdv A outer s H E).nox (defBody s_law_more) (t_law_more K T.C E) :=
    (pss_cons (ps_setLc (i := 3) (own := [("_law_at", 4)]) (g := (gName 4)) (tt := (tTest (tOp (rEqD K) (tOp (rIx K) (tOp (rIx K) (tOp (rIx K) (tVar 0) (tC (.int 1))) (tVar 4)) (tC (.int 1))) (tVar 2)))) rfl sc_law_more.nd rfl rfl (sw_true rfl rfl rfl (by decide +kernel)) (pi_range1 rfl T.mg_range (pa_cons (pe_callB call_len_seq (by rfl) T.mg_len bt_len (pa_cons (pv 1) pa_nil)) pa_nil)) (blkOk_by (N := ["_law_net_here", "_law_load", "_law_node", "_law_some", "_law_at"]) (sc := defScope s_law_more) (by decide +kernel)) (fun _ _ _ _ _ => (pg_name (i := 4) sc_law_more.nd rfl (by first | exact Or.inl rfl | exact Or.inr rfl))) (fun _ _ _ _ _ => (pts_one (pt_cmpR (op_eqD hr.units) (pe_ix ix_seq (pe_ix ix_seq (pe_ix ix_seq (pv 0) pe_int (fun _ _ => rfl)) (pv 4) (fun _ _ => rfl)) pe_int (fun _ _ => rfl)) (pv 2) (nomark _)))) (fun _ _ _ _ _ => (pe_ix ix_seq (pv 1) (pv 4) (fun _ _ => rfl))))
      (pss_one (ps_ret (pe_op op_sub (pe_callB (cr_sum rfl) (by rfl) T.mg_sum bt_sum (pa_cons (pv 3) pa_nil)) (pe_callB (cr_sum rfl) (by rfl) T.mg_sum bt_sum (pa_cons (pe_lc (own := [("_law_at", 4)]) (g := (gName 4)) (tt := (tTest (tOp (rEqD K) (tOp (rIx K) (tOp (rIx K) (tOp (rIx K) (tVar 0) (tC (.int 1))) (tVar 4)) (tC (.int 0))) (tVar 2)))) rfl sc_law_more.nd (pi_range1 rfl T.mg_range (pa_cons (pe_callB call_len_seq (by rfl) T.mg_len bt_len (pa_cons (pv 1) pa_nil)) pa_nil)) (blkOk_by (N := ["_law_net_here", "_law_load", "_law_node", "_law_some", "_law_at"]) (sc := defScope s_law_more) (by decide +kernel)) (fun _ _ _ _ _ => (pg_name (i := 4) sc_law_more.nd rfl (by first | exact Or.inl rfl | exact Or.inr rfl))) (fun _ _ _ _ _ => (pts_one (pt_cmpR (op_eqD hr.units) (pe_ix ix_seq (pe_ix ix_seq (pe_ix ix_seq (pv 0) pe_int (fun _ _ => rfl)) (pv 4) (fun _ _ => rfl)) pe_int (fun _ _ => rfl)) (pv 2) (nomark _)))) (fun _ _ _ _ _ => (pe_ix ix_seq (pv 1) (pv 4) (fun _ _ => rfl)))) pa_nil))))))
abbrev s_law_is_load : Stmt := topS 52
theorem sc_law_is_load : FnScope ["_law_net_here", "_law_value", "_law_arcs", "_law_one", "_law_at"] ["_law_net_here", "_law_value"] (defScope s_law_is_load) := ⟨rfl, rfl, rfl, by decide +kernel, rfl, by decide +kernel, by decide +kernel⟩
def t_law_is_load (K : PySem.W.Frag) (C : Addr) (E : XK) : TS :=
    (tSeq (tAsg (tOp (rIx K) (tVar 0) (tC (.int 1))) (gName 2))
    (tSeq (tIfS (tOr (tNot (tB (tCB (rIsiT K) (tCons (tVar 1) (tCons (tTup (tCons (tC (.ty "list")) (tCons (tC (.ty "tuple")) tNil))) tNil))))) (tTest (tOp (rNeD K) (tCB (rLen K) (tCons (tVar 1) tNil)) (tCB (rLen K) (tCons (tVar 2) tNil))))) (tRet (tC (.bl false))) tNext)
    (tSeq (tIfS (tTest (tOp (rNeD K) (tLc (iSeq K (tVar 1)) (gName 3) (tOr (tNot (tB (tCB (rIsi K) (tCons (tVar 3) (tCons (tC (.ty "int")) tNil))))) (tOr (tB (tCB (rIsi K) (tCons (tVar 3) (tCons (tC (.ty "bool")) tNil)))) (tTest (tOp (rI0 fun i j => .bl (decide (i < j))) (tVar 3) (tC (.int 0)))))) (tVar 3) [3]) (tLst tNil))) (tRet (tC (.bl false))) tNext)
    (tRet (tOp (rEqD K) (tLc (iRng1 (tCons (tCB (rLen K) (tCons (tVar 2) tNil)) tNil)) (gName 4) (tAnd (tTest (tOp (fun x y H Q => y = .non ∧ Q (.bl (!decide (x = .non))) H) (tOp (rIx K) (tOp (rIx K) (tVar 2) (tVar 4)) (tC (.int 2))) (tC .non))) (tTest (tOp (rI0 fun i j => .bl (decide (j < i))) (tOp (rIx K) (tVar 1) (tVar 4)) (tOp (rIx K) (tOp (rIx K) (tVar 2) (tVar 4)) (tC (.int 2)))))) (tVar 4) [4]) (tLst tNil))))))
theorem d_law_is_load (T : Txt K mg)  (f : Addr) (cdv : Value) (A : Around) (outer : List Env) (s : Shared) (H : Hp) (E : XK) (hr : Room 0 (A.deeper (envOfC "_law_is_load" (defScope s_law_is_load) s.heap.objs.size f cdv))) :
    PSs (cxOf (L2.CX PG w) PG w K mg base ["_law_net_here", "_law_value", "_law_arcs", "_law_one", "_law_at"] "_law_is_load" (defScope s_law_is_load) f cdv A outer s H E).nox (defBody s_law_is_load) (t_law_is_load K T.C E) :=
    (pss_cons (ps_set (i := 2) sc_law_is_load.nd rfl (Or.inr rfl) (pe_ix ix_seq (pv 0) pe_int (fun _ _ => rfl)))
      (pss_cons (ps_if (PW.pt (pw_or (pt_not (pt_val (pe_callB call_isiT (by rfl) T.mg_isinstance bt_isinstance (pa_cons (pv 1) (pa_cons (pe_tup (pa_cons (pe_bltn (v := .ty "list") rfl T.mg_list bt_list rfl) (pa_cons (pe_bltn (v := .ty "tuple") rfl T.mg_tuple bt_tuple rfl) pa_nil))) pa_nil))))) (pw_or1 (pt_cmpR (op_neD hr.units) (pe_callB call_len_seq (by rfl) T.mg_len bt_len (pa_cons (pv 1) pa_nil)) (pe_callB call_len_seq (by rfl) T.mg_len bt_len (pa_cons (pv 2) pa_nil)) (nomark _))))) (pss_one (ps_ret pe_bl)) pss_nil)
      (pss_cons (ps_if (pt_cmpR (op_neD hr.units) (pe_lc (own := [("_law_one", 3)]) (g := (gName 3)) (tt := (tOr (tNot (tB (tCB (rIsi K) (tCons (tVar 3) (tCons (tC (.ty "int")) tNil))))) (tOr (tB (tCB (rIsi K) (tCons (tVar 3) (tCons (tC (.ty "bool")) tNil)))) (tTest (tOp (rI0 fun i j => .bl (decide (i < j))) (tVar 3) (tC (.int 0))))))) rfl sc_law_is_load.nd (pi_seq (pv 1)) (blkOk_by (N := ["_law_net_here", "_law_value", "_law_arcs", "_law_one", "_law_at"]) (sc := defScope s_law_is_load) (by decide +kernel)) (fun _ _ _ _ _ => (pg_name (i := 3) sc_law_is_load.nd rfl (by first | exact Or.inl rfl | exact Or.inr rfl))) (fun _ _ _ _ _ => (pts_one (PW.pt (pw_or (pt_not (pt_val (pe_callB call_isi (by rfl) T.mg_isinstance bt_isinstance (pa_cons (pv 3) (pa_cons (pe_bltn (v := .ty "int") rfl T.mg_int bt_int rfl) pa_nil))))) (pw_or (pt_val (pe_callB call_isi (by rfl) T.mg_isinstance bt_isinstance (pa_cons (pv 3) (pa_cons (pe_bltn (v := .ty "bool") rfl T.mg_bool bt_bool rfl) pa_nil)))) (pw_or1 (pt_cmpR op_lt (pv 3) pe_int (nomark _)))))))) (fun _ _ _ _ _ => (pv 3))) (pe_lst pa_nil) (nomark _)) (pss_one (ps_ret pe_bl)) pss_nil)
      (pss_one (ps_ret (pe_cmpR (op_eqD hr.units) (pe_lc (own := [("_law_at", 4)]) (g := (gName 4)) (tt := (tAnd (tTest (tOp (fun x y H Q => y = .non ∧ Q (.bl (!decide (x = .non))) H) (tOp (rIx K) (tOp (rIx K) (tVar 2) (tVar 4)) (tC (.int 2))) (tC .non))) (tTest (tOp (rI0 fun i j => .bl (decide (j < i))) (tOp (rIx K) (tVar 1) (tVar 4)) (tOp (rIx K) (tOp (rIx K) (tVar 2) (tVar 4)) (tC (.int 2))))))) rfl sc_law_is_load.nd (pi_range1 rfl T.mg_range (pa_cons (pe_callB call_len_seq (by rfl) T.mg_len bt_len (pa_cons (pv 2) pa_nil)) pa_nil)) (blkOk_by (N := ["_law_net_here", "_law_value", "_law_arcs", "_law_one", "_law_at"]) (sc := defScope s_law_is_load) (by decide +kernel)) (fun _ _ _ _ _ => (pg_name (i := 4) sc_law_is_load.nd rfl (by first | exact Or.inl rfl | exact Or.inr rfl))) (fun _ _ _ _ _ => (pts_one (PW.pt (pw_and (pt_cmpR op_notN (pe_ix ix_seq (pe_ix ix_seq (pv 2) (pv 4) (fun _ _ => rfl)) pe_int (fun _ _ => rfl)) pe_non (nomark _)) (pw_and1 (pt_cmpR op_gt (pe_ix ix_seq (pv 1) (pv 4) (fun _ _ => rfl)) (pe_ix ix_seq (pe_ix ix_seq (pv 2) (pv 4) (fun _ _ => rfl)) pe_int (fun _ _ => rfl)) (nomark _))))))) (fun _ _ _ _ _ => (pv 4))) (pe_lst pa_nil) (nomark _)))))))
abbrev s_law_is_flow : Stmt := topS 53
theorem sc_law_is_flow : FnScope ["_law_net_here", "_law_start_here", "_law_goal", "_law_value", "_law_node"] ["_law_net_here", "_law_start_here", "_law_goal", "_law_value"] (defScope s_law_is_flow) := ⟨rfl, rfl, rfl, by decide +kernel, rfl, by decide +kernel, by decide +kernel⟩
def t_law_is_flow (K : PySem.W.Frag) (C : Addr) (E : XK) : TS :=
    (tSeq (tIfS (tNot (tB (tCall (sp_law_is_load C) [] E0 (tCons (tVar 0) (tCons (tVar 3) tNil))))) (tRet (tC (.bl false))) tNext)
    (tRet (tOp (rEqD K) (tLc (iRng1 (tCons (tOp (rIx K) (tVar 0) (tC (.int 0))) tNil)) (gName 4) (tAnd (tTest (tOp (rIn K true) (tVar 4) (tTup (tCons (tVar 1) (tCons (tVar 2) tNil))))) (tTest (tOp (rNeD K) (tCall (sp_law_more C) [] E0 (tCons (tVar 0) (tCons (tVar 3) (tCons (tVar 4) tNil)))) (tC (.int 0))))) (tVar 4) [4]) (tLst tNil))))
theorem d_law_is_flow (T : Txt K mg) (G_law_more : FnOk PG w K mg base (L2.CX PG w) 1 T.f_law_more.f T.f_law_more.fd ["_law_net_here", "_law_load", "_law_node"] (sp_law_more T.C)) (G_law_is_load : FnOk PG w K mg base (L2.CX PG w) 1 T.f_law_is_load.f T.f_law_is_load.fd ["_law_net_here", "_law_value"] (sp_law_is_load T.C)) (f : Addr) (cdv : Value) (A : Around) (outer : List Env) (s : Shared) (H : Hp) (E : XK) (hr : Room 1 (A.deeper (envOfC "_law_is_flow" (defScope s_law_is_flow) s.heap.objs.size f cdv))) :
    PSs (cxOf (L2.CX PG w) PG w K mg base ["_law_net_here", "_law_start_here", "_law_goal", "_law_value", "_law_node"] "_law_is_flow" (defScope s_law_is_flow) f cdv A outer s H E).nox (defBody s_law_is_flow) (t_law_is_flow K T.C E) :=
    (pss_cons (ps_if (pt_not (pt_val (pe_call G_law_is_load (hr.mono (by decide)) rfl T.f_law_is_load.g T.f_law_is_load.F.kp T.f_law_is_load.b .nil passL (pa_cons (pv 0) (pa_cons (pv 3) pa_nil))))) (pss_one (ps_ret pe_bl)) pss_nil)
      (pss_one (ps_ret (pe_cmpR (op_eqD hr.units) (pe_lc (own := [("_law_node", 4)]) (g := (gName 4)) (tt := (tAnd (tTest (tOp (rIn K true) (tVar 4) (tTup (tCons (tVar 1) (tCons (tVar 2) tNil))))) (tTest (tOp (rNeD K) (tCall (sp_law_more T.C) [] E0 (tCons (tVar 0) (tCons (tVar 3) (tCons (tVar 4) tNil)))) (tC (.int 0)))))) rfl sc_law_is_flow.nd (pi_range1 rfl T.mg_range (pa_cons (pe_ix ix_seq (pv 0) pe_int (fun _ _ => rfl)) pa_nil)) (blkOk_by (N := ["_law_net_here", "_law_start_here", "_law_goal", "_law_value", "_law_node"]) (sc := defScope s_law_is_flow) (by decide +kernel)) (fun _ _ _ _ _ => (pg_name (i := 4) sc_law_is_flow.nd rfl (by first | exact Or.inl rfl | exact Or.inr rfl))) (fun _ _ _ _ _ => (pts_one (PW.pt (pw_and (pt_cmpR op_notIn_seq (pv 4) (pe_tup (pa_cons (pv 1) (pa_cons (pv 2) pa_nil))) (by with_unfolding_all rfl)) (pw_and1 (pt_cmpR (op_neD hr.units) (pe_call G_law_more (hr.mono (by decide)) rfl T.f_law_more.g T.f_law_more.F.kp T.f_law_more.b .nil passL (pa_cons (pv 0) (pa_cons (pv 3) (pa_cons (pv 4) pa_nil)))) pe_int (nomark _))))))) (fun _ _ _ _ _ => (pv 4))) (pe_lst pa_nil) (nomark _)))))
abbrev s_law_worth : Stmt := topS 54
theorem sc_law_worth : FnScope ["_law_net_here", "_law_lot", "_law_some", "_law_arc"] ["_law_net_here", "_law_lot"] (defScope s_law_worth) := ⟨rfl, rfl, rfl, by decide +kernel, rfl, by decide +kernel, by decide +kernel⟩
def t_law_worth (K : PySem.W.Frag) (C : Addr) (E : XK) : TS :=
    (tSeq (tAsg (tLc (iSeq K (tOp (rIx K) (tVar 0) (tC (.int 1)))) (gName 3) (tAnd (tTest (tOp (rIn K false) (tOp (rIx K) (tVar 3) (tC (.int 0))) (tVar 1))) (tTest (tOp (rIn K true) (tOp (rIx K) (tVar 3) (tC (.int 1))) (tVar 1)))) (tOp (rIx K) (tVar 3) (tC (.int 2))) [3]) (gName 2))
    (tRet (tIf (tTest (tOp (rIn K false) (tC .non) (tVar 2))) (tC .non) (tCB (rSum K) (tCons (tVar 2) tNil)))))
theorem d_law_worth (T : Txt K mg)  (f : Addr) (cdv : Value) (A : Around) (outer : List Env) (s : Shared) (H : Hp) (E : XK) (hr : Room 0 (A.deeper (envOfC "_law_worth" (defScope s_law_worth) s.heap.objs.size f cdv))) :
    PSs (cxOf (L2.CX PG w) PG w K mg base ["_law_net_here", "_law_lot", "_law_some", "_law_arc"] "_law_worth" (defScope s_law_worth) f cdv A outer s H E).nox (defBody s_law_worth) (t_law_worth K T.C E) :=
    (pss_cons (ps_setLc (i := 2) (own := [("_law_arc", 3)]) (g := (gName 3)) (tt := (tAnd (tTest (tOp (rIn K false) (tOp (rIx K) (tVar 3) (tC (.int 0))) (tVar 1))) (tTest (tOp (rIn K true) (tOp (rIx K) (tVar 3) (tC (.int 1))) (tVar 1))))) rfl sc_law_worth.nd rfl rfl (sw_true rfl rfl rfl (by decide +kernel)) (pi_seq (pe_ix ix_seq (pv 0) pe_int (fun _ _ => rfl))) (blkOk_by (N := ["_law_net_here", "_law_lot", "_law_some", "_law_arc"]) (sc := defScope s_law_worth) (by decide +kernel)) (fun _ _ _ _ _ => (pg_name (i := 3) sc_law_worth.nd rfl (by first | exact Or.inl rfl | exact Or.inr rfl))) (fun _ _ _ _ _ => (pts_one (PW.pt (pw_and (pt_cmpR op_in_seq (pe_ix ix_seq (pv 3) pe_int (fun _ _ => rfl)) (pv 1) (by with_unfolding_all rfl)) (pw_and1 (pt_cmpR op_notIn_seq (pe_ix ix_seq (pv 3) pe_int (fun _ _ => rfl)) (pv 1) (by with_unfolding_all rfl))))))) (fun _ _ _ _ _ => (pe_ix ix_seq (pv 3) pe_int (fun _ _ => rfl))))
      (pss_one (ps_ret (pe_ifExp (pt_cmpR op_in_seq pe_non (pv 2) (by with_unfolding_all rfl)) pe_non (pe_callB (cr_sum rfl) (by rfl) T.mg_sum bt_sum (pa_cons (pv 2) pa_nil))))))
abbrev s_law_lots : Stmt := topS 55
theorem sc_law_lots : FnScope ["_law_net_here", "_law_start_here", "_law_ends", "_law_found", "_law_node", "_law_with_it", "_law_lot"] ["_law_net_here", "_law_start_here", "_law_ends"] (defScope s_law_lots) := ⟨rfl, rfl, rfl, by decide +kernel, rfl, by decide +kernel, by decide +kernel⟩
def t_law_lots (K : PySem.W.Frag) (C : Addr) (E : XK) : TS :=
    (tSeq (tAsg (tLst (tCons (tLst tNil) tNil)) (gName 3))
    (tSeq (tFor (iRng1 (tCons (tOp (rIx K) (tVar 0) (tC (.int 0))) tNil)) (gName 4) (tSeq (tAsg (tIf (tTest (tOp (rIn K true) (tVar 4) (tVar 2))) (tLc (iSeq K (tVar 3)) (gName 6) tYes (tOp rCat (tVar 6) (tLst (tCons (tVar 4) tNil))) [6]) (tLst tNil)) (gName 5))
    (tAsg (tOp rCat (tIf (tTest (tOp (rNeD K) (tVar 4) (tVar 1))) (tVar 3) (tLst tNil)) (tVar 5)) (gName 3))))
    (tRet (tLc (iSeq K (tVar 3)) (gName 6) tYes (tTup (tCons (tCall (sp_law_worth C) [] E0 (tCons (tVar 0) (tCons (tVar 6) tNil))) (tCons (tVar 6) tNil))) [6]))))
theorem d_law_lots (T : Txt K mg) (G_law_worth : FnOk PG w K mg base (L2.CX PG w) 1 T.f_law_worth.f T.f_law_worth.fd ["_law_net_here", "_law_lot"] (sp_law_worth T.C)) (f : Addr) (cdv : Value) (A : Around) (outer : List Env) (s : Shared) (H : Hp) (E : XK) (hr : Room 1 (A.deeper (envOfC "_law_lots" (defScope s_law_lots) s.heap.objs.size f cdv))) :
    PSs (cxOf (L2.CX PG w) PG w K mg base ["_law_net_here", "_law_start_here", "_law_ends", "_law_found", "_law_node", "_law_with_it", "_law_lot"] "_law_lots" (defScope s_law_lots) f cdv A outer s H E).nox (defBody s_law_lots) (t_law_lots K T.C E) :=
    (pss_cons (ps_set (i := 3) sc_law_lots.nd rfl (Or.inl rfl) (pe_lst (pa_cons (pe_lst pa_nil) pa_nil)))
      (pss_cons (ps_for PassesOwn.never rfl (pi_range1 rfl T.mg_range (pa_cons (pe_ix ix_seq (pv 0) pe_int (fun _ _ => rfl)) pa_nil)) (pg_name (i := 4) sc_law_lots.nd rfl (Or.inr rfl)) (pss_cons (ps_set (i := 5) sc_law_lots.nd rfl (Or.inl rfl) (pe_ifExp (pt_cmpR op_notIn_seq (pv 4) (pv 2) (by with_unfolding_all rfl)) (pe_lc (own := [("_law_lot", 6)]) (g := (gName 6)) (tt := tYes) rfl sc_law_lots.nd (pi_seq (pv 3)) (blkOk_by (N := ["_law_net_here", "_law_start_here", "_law_ends", "_law_found", "_law_node", "_law_with_it", "_law_lot"]) (sc := defScope s_law_lots) (by decide +kernel)) (fun _ _ _ _ _ => (pg_name (i := 6) sc_law_lots.nd rfl (by first | exact Or.inl rfl | exact Or.inr rfl))) (fun _ _ _ _ _ => pts_nil) (fun _ _ _ _ _ => (pe_op op_cat (pv 6) (pe_lst (pa_cons (pv 4) pa_nil))))) (pe_lst pa_nil)))
      (pss_one (ps_set (i := 3) sc_law_lots.nd rfl (Or.inl rfl) (pe_op op_cat (pe_ifExp (pt_cmpR (op_neD hr.units) (pv 4) (pv 1) (nomark _)) (pv 3) (pe_lst pa_nil)) (pv 5))))))
      (pss_one (ps_ret (pe_lc (own := [("_law_lot", 6)]) (g := (gName 6)) (tt := tYes) rfl sc_law_lots.nd (pi_seq (pv 3)) (blkOk_by (N := ["_law_net_here", "_law_start_here", "_law_ends", "_law_found", "_law_node", "_law_with_it", "_law_lot"]) (sc := defScope s_law_lots) (by decide +kernel)) (fun _ _ _ _ _ => (pg_name (i := 6) sc_law_lots.nd rfl (by first | exact Or.inl rfl | exact Or.inr rfl))) (fun _ _ _ _ _ => pts_nil) (fun _ _ _ _ _ => (pe_tup (pa_cons (pe_call G_law_worth (hr.mono (by decide)) rfl T.f_law_worth.g T.f_law_worth.F.kp T.f_law_worth.b .nil passL (pa_cons (pv 0) (pa_cons (pv 6) pa_nil))) (pa_cons (pv 6) pa_nil)))))))))
abbrev s_law_best : Stmt := topS 56
theorem sc_law_best : FnScope ["_law_lots_here", "_law_known", "_law_one"] ["_law_lots_here"] (defScope s_law_best) := ⟨rfl, rfl, rfl, by decide +kernel, rfl, by decide +kernel, by decide +kernel⟩
def t_law_best (K : PySem.W.Frag) (C : Addr) (E : XK) : TS :=
    (tSeq (tAsg (tLc (iSeq K (tVar 0)) (gName 2) (tTest (tOp (fun x y H Q => y = .non ∧ Q (.bl (!decide (x = .non))) H) (tOp (rIx K) (tVar 2) (tC (.int 0))) (tC .non))) (tOp (rIx K) (tVar 2) (tC (.int 0))) [2]) (gName 1))
    (tRet (tIf (tTest (tOp (rNeD K) (tVar 1) (tLst tNil))) (tCB (rMin K) (tCons (tVar 1) tNil)) (tC .non))))
theorem d_law_best (T : Txt K mg)  (f : Addr) (cdv : Value) (A : Around) (outer : List Env) (s : Shared) (H : Hp) (E : XK) (hr : Room 0 (A.deeper (envOfC "_law_best" (defScope s_law_best) s.heap.objs.size f cdv))) :
    PSs (cxOf (L2.CX PG w) PG w K mg base ["_law_lots_here", "_law_known", "_law_one"] "_law_best" (defScope s_law_best) f cdv A outer s H E).nox (defBody s_law_best) (t_law_best K T.C E) :=
    (pss_cons (ps_setLc (i := 1) (own := [("_law_one", 2)]) (g := (gName 2)) (tt := (tTest (tOp (fun x y H Q => y = .non ∧ Q (.bl (!decide (x = .non))) H) (tOp (rIx K) (tVar 2) (tC (.int 0))) (tC .non)))) rfl sc_law_best.nd rfl rfl (sw_true rfl rfl rfl (by decide +kernel)) (pi_seq (pv 0)) (blkOk_by (N := ["_law_lots_here", "_law_known", "_law_one"]) (sc := defScope s_law_best) (by decide +kernel)) (fun _ _ _ _ _ => (pg_name (i := 2) sc_law_best.nd rfl (by first | exact Or.inl rfl | exact Or.inr rfl))) (fun _ _ _ _ _ => (pts_one (pt_cmpR op_notN (pe_ix ix_seq (pv 2) pe_int (fun _ _ => rfl)) pe_non (nomark _)))) (fun _ _ _ _ _ => (pe_ix ix_seq (pv 2) pe_int (fun _ _ => rfl))))
      (pss_one (ps_ret (pe_ifExp (pt_cmpR (op_neD hr.units) (pv 1) (pe_lst pa_nil) (nomark _)) (pe_callB (cr_min rfl) (by rfl) T.mg_min bt_min (pa_cons (pv 1) pa_nil)) pe_non))))
abbrev s_law_is_best : Stmt := topS 58
theorem sc_law_is_best : FnScope ["_law_net_here", "_law_start_here", "_law_goal", "_law_best_here", "_law_told"] ["_law_net_here", "_law_start_here", "_law_goal", "_law_best_here", "_law_told"] (defScope s_law_is_best) := ⟨rfl, rfl, rfl, by decide +kernel, rfl, by decide +kernel, by decide +kernel⟩
def t_law_is_best (K : PySem.W.Frag) (C : Addr) (E : XK) : TS :=
    (tSeq (tIfS (tOr (tNot (tB (tCB (rIsi K) (tCons (tVar 4) (tCons (tC (.ty "tuple")) tNil))))) (tNot (tB (tCall (sp_law_is_flow C) [] E0 (tCons (tVar 0) (tCons (tVar 1) (tCons (tVar 2) (tCons (tVar 4) tNil)))))))) (tRet (tC (.bl false))) tNext)
    (tSeq (tIfS (tOr (tNot (tB (tCall (sp_flow_fits C) [] E0 (tCons (tVar 0) (tCons (tVar 1) (tCons (tVar 2) (tCons (tVar 4) tNil))))))) (tTest (tOp (rNeD K) (tCall (sp_law_more C) [] E0 (tCons (tVar 0) (tCons (tVar 4) (tCons (tVar 2) tNil)))) (tVar 3)))) (tRet (tC (.bl false))) tNext)
    (tSeq (tIfS (tOr (tTest (tOp (fun x y H Q => y = .non ∧ Q (.bl (!decide (x = .non))) H) (tCall (sp_walk C) [] E0 (tCons (tVar 0) (tCons (tVar 4) (tCons (tVar 1) (tCons (tLst (tCons (tVar 2) tNil)) tNil))))) (tC .non))) (tTest (tOp (rIn K false) (tVar 2) (tCall (sp_reached C) [] E0 (tCons (tVar 0) (tCons (tVar 4) (tCons (tVar 1) tNil))))))) (tRet (tC (.bl false))) tNext)
    (tRet (tOp (rEqD K) (tCall (sp_cut_worth C) [] E0 (tCons (tVar 0) (tCons (tCall (sp_reached C) [] E0 (tCons (tVar 0) (tCons (tVar 4) (tCons (tVar 1) tNil)))) tNil))) (tVar 3))))))
theorem d_law_is_best (T : Txt K mg) (G_flow_fits : FnOk PG w K mg base (L2.CX PG w) 6 T.f_flow_fits.f T.f_flow_fits.fd ["net", "start", "goal", "value"] (sp_flow_fits T.C)) (G_cut_worth : FnOk PG w K mg base (L2.CX PG w) 6 T.f_cut_worth.f T.f_cut_worth.fd ["net", "lot"] (sp_cut_worth T.C)) (G_walk : FnOk PG w K mg base (L2.CX PG w) 6 T.f_walk.f T.f_walk.fd ["net", "flow", "start", "ends"] (sp_walk T.C)) (G_reached : FnOk PG w K mg base (L2.CX PG w) 6 T.f_reached.f T.f_reached.fd ["net", "flow", "start"] (sp_reached T.C)) (G_law_more : FnOk PG w K mg base (L2.CX PG w) 1 T.f_law_more.f T.f_law_more.fd ["_law_net_here", "_law_load", "_law_node"] (sp_law_more T.C)) (G_law_is_flow : FnOk PG w K mg base (L2.CX PG w) 2 T.f_law_is_flow.f T.f_law_is_flow.fd ["_law_net_here", "_law_start_here", "_law_goal", "_law_value"] (sp_law_is_flow T.C)) (f : Addr) (cdv : Value) (A : Around) (outer : List Env) (s : Shared) (H : Hp) (E : XK) (hr : Room 6 (A.deeper (envOfC "_law_is_best" (defScope s_law_is_best) s.heap.objs.size f cdv))) :
    PSs (cxOf (L2.CX PG w) PG w K mg base ["_law_net_here", "_law_start_here", "_law_goal", "_law_best_here", "_law_told"] "_law_is_best" (defScope s_law_is_best) f cdv A outer s H E).nox (defBody s_law_is_best) (t_law_is_best K T.C E) :=
    (pss_cons (ps_if (PW.pt (pw_or (pt_not (pt_val (pe_callB call_isi (by rfl) T.mg_isinstance bt_isinstance (pa_cons (pv 4) (pa_cons (pe_bltn (v := .ty "tuple") rfl T.mg_tuple bt_tuple rfl) pa_nil))))) (pw_or1 (pt_not (pt_val (pe_call G_law_is_flow (hr.mono (by decide)) rfl T.f_law_is_flow.g T.f_law_is_flow.F.kp T.f_law_is_flow.b .nil passL (pa_cons (pv 0) (pa_cons (pv 1) (pa_cons (pv 2) (pa_cons (pv 4) pa_nil)))))))))) (pss_one (ps_ret pe_bl)) pss_nil)
      (pss_cons (ps_if (PW.pt (pw_or (pt_not (pt_val (pe_call G_flow_fits (hr.mono (by decide)) rfl T.f_flow_fits.g T.f_flow_fits.F.kp T.f_flow_fits.b .nil passL (pa_cons (pv 0) (pa_cons (pv 1) (pa_cons (pv 2) (pa_cons (pv 4) pa_nil))))))) (pw_or1 (pt_cmpR (op_neD hr.units) (pe_call G_law_more (hr.mono (by decide)) rfl T.f_law_more.g T.f_law_more.F.kp T.f_law_more.b .nil passL (pa_cons (pv 0) (pa_cons (pv 4) (pa_cons (pv 2) pa_nil)))) (pv 3) (nomark _))))) (pss_one (ps_ret pe_bl)) pss_nil)
      (pss_cons (ps_if (PW.pt (pw_or (pt_cmpR op_notN (pe_call G_walk (hr.mono (by decide)) rfl T.f_walk.g T.f_walk.F.kp T.f_walk.b .nil passL (pa_cons (pv 0) (pa_cons (pv 4) (pa_cons (pv 1) (pa_cons (pe_lst (pa_cons (pv 2) pa_nil)) pa_nil))))) pe_non (nomark _)) (pw_or1 (pt_cmpR op_in_seq (pv 2) (pe_call G_reached (hr.mono (by decide)) rfl T.f_reached.g T.f_reached.F.kp T.f_reached.b .nil passL (pa_cons (pv 0) (pa_cons (pv 4) (pa_cons (pv 1) pa_nil)))) (by with_unfolding_all rfl))))) (pss_one (ps_ret pe_bl)) pss_nil)
      (pss_one (ps_ret (pe_cmpR (op_eqD hr.units) (pe_call G_cut_worth (hr.mono (by decide)) rfl T.f_cut_worth.g T.f_cut_worth.F.kp T.f_cut_worth.b .nil passL (pa_cons (pv 0) (pa_cons (pe_call G_reached (hr.mono (by decide)) rfl T.f_reached.g T.f_reached.F.kp T.f_reached.b .nil passL (pa_cons (pv 0) (pa_cons (pv 4) (pa_cons (pv 1) pa_nil)))) pa_nil))) (pv 3) (nomark _)))))))
abbrev s_law_near : Stmt := topS 61
theorem sc_law_near : FnScope ["_law_net_here", "_law_load", "_law_start_here", "_law_line", "_law_turn", "_law_at", "_law_tail", "_law_head", "_law_most"] ["_law_net_here", "_law_load", "_law_start_here"] (defScope s_law_near) := ⟨rfl, rfl, rfl, by decide +kernel, rfl, by decide +kernel, by decide +kernel⟩
def t_law_near (K : PySem.W.Frag) (C : Addr) (E : XK) : TS :=
    (tSeq (tAsg (tLst (tCons (tVar 2) tNil)) (gName 3))
    (tSeq (tFor (iRng1 (tCons (tOp (rIx K) (tVar 0) (tC (.int 0))) tNil)) (gName 4) (tFor (iRng1 (tCons (tIf (tTest (tOp (rI0 fun i j => .bl (decide (i < j))) (tVar 4) (tCB (rLen K) (tCons (tVar 3) tNil)))) (tCB (rLen K) (tCons (tOp (rIx K) (tVar 0) (tC (.int 1))) tNil)) (tC (.int 0))) tNil)) (gName 5) (tSeq (tAsg (tOp (rIx K) (tOp (rIx K) (tVar 0) (tC (.int 1))) (tVar 5)) (gTup K 3 (gCons (gName 6) (gCons (gName 7) (gCons (gName 8) gNil)))))
    (tSeq (tIfS (tAnd (tTest (tOp (rEqD K) (tVar 6) (tOp (rIx K) (tVar 3) (tVar 4)))) (tAnd (tTest (tOp (rIn K true) (tVar 7) (tVar 3))) (tOr (tTest (tOp (fun x y H Q => y = .non ∧ Q (.bl (decide (x = .non))) H) (tVar 8) (tC .non))) (tTest (tOp (rI0 fun i j => .bl (decide (i < j))) (tOp (rIx K) (tVar 1) (tVar 5)) (tVar 8)))))) (tDrop (tBM K "list" rAppend (tVar 3) (tCons (tVar 7) tNil))) tNext)
    (tIfS (tAnd (tTest (tOp (rEqD K) (tVar 7) (tOp (rIx K) (tVar 3) (tVar 4)))) (tAnd (tTest (tOp (rIn K true) (tVar 6) (tVar 3))) (tTest (tOp (rI0 fun i j => .bl (decide (j < i))) (tOp (rIx K) (tVar 1) (tVar 5)) (tC (.int 0)))))) (tDrop (tBM K "list" rAppend (tVar 3) (tCons (tVar 6) tNil))) tNext)))))
    (tRet (tVar 3))))
theorem d_law_near (T : Txt K mg)  (f : Addr) (cdv : Value) (A : Around) (outer : List Env) (s : Shared) (H : Hp) (E : XK) (hr : Room 0 (A.deeper (envOfC "_law_near" (defScope s_law_near) s.heap.objs.size f cdv))) :
    PSs (cxOf (L2.CX PG w) PG w K mg base ["_law_net_here", "_law_load", "_law_start_here", "_law_line", "_law_turn", "_law_at", "_law_tail", "_law_head", "_law_most"] "_law_near" (defScope s_law_near) f cdv A outer s H E).nox (defBody s_law_near) (t_law_near K T.C E) :=
    (pss_cons (ps_set (i := 3) sc_law_near.nd rfl (Or.inl rfl) (pe_lst (pa_cons (pv 2) pa_nil)))
      (pss_cons (ps_for PassesOwn.never rfl (pi_range1 rfl T.mg_range (pa_cons (pe_ix ix_seq (pv 0) pe_int (fun _ _ => rfl)) pa_nil)) (pg_name (i := 4) sc_law_near.nd rfl (Or.inl rfl)) (pss_one (ps_for PassesOwn.never rfl (pi_range1 rfl T.mg_range (pa_cons (pe_ifExp (pt_cmpR op_lt (pv 4) (pe_callB call_len_seq (by rfl) T.mg_len bt_len (pa_cons (pv 3) pa_nil)) (nomark _)) (pe_callB call_len_seq (by rfl) T.mg_len bt_len (pa_cons (pe_ix ix_seq (pv 0) pe_int (fun _ _ => rfl)) pa_nil)) pe_int) pa_nil)) (pg_name (i := 5) sc_law_near.nd rfl (Or.inl rfl)) (pss_cons (ps_asg (pe_ix ix_seq (pe_ix ix_seq (pv 0) pe_int (fun _ _ => rfl)) (pv 5) (fun _ _ => rfl)) (pg_tup rfl (pgs_cons (pg_name (i := 6) sc_law_near.nd rfl (Or.inl rfl)) (pgs_cons (pg_name (i := 7) sc_law_near.nd rfl (Or.inl rfl)) (pgs_cons (pg_name (i := 8) sc_law_near.nd rfl (Or.inl rfl)) pgs_nil)))))
      (pss_cons (ps_if (PW.pt (pw_and (pt_cmpR (op_eqD hr.units) (pv 6) (pe_ix ix_seq (pv 3) (pv 4) (fun _ _ => rfl)) (nomark _)) (pw_and (pt_cmpR op_notIn_seq (pv 7) (pv 3) (by with_unfolding_all rfl)) (pw_and1 (PW.pt (pw_or (pt_cmpR op_isN (pv 8) pe_non (nomark _)) (pw_or1 (pt_cmpR op_lt (pe_ix ix_seq (pv 1) (pv 5) (fun _ _ => rfl)) (pv 8) (nomark _))))))))) (pss_one (ps_expr (pe_bm PySem.F.plainAttrs_list PySem.F.slot_list_append PySem.F.type_list_append mt_append (pv 3) (pa_cons (pv 7) pa_nil)))) pss_nil)
      (pss_one (ps_if (PW.pt (pw_and (pt_cmpR (op_eqD hr.units) (pv 7) (pe_ix ix_seq (pv 3) (pv 4) (fun _ _ => rfl)) (nomark _)) (pw_and (pt_cmpR op_notIn_seq (pv 6) (pv 3) (by with_unfolding_all rfl)) (pw_and1 (pt_cmpR op_gt (pe_ix ix_seq (pv 1) (pv 5) (fun _ _ => rfl)) pe_int (nomark _)))))) (pss_one (ps_expr (pe_bm PySem.F.plainAttrs_list PySem.F.slot_list_append PySem.F.type_list_append mt_append (pv 3) (pa_cons (pv 6) pa_nil)))) pss_nil)))))))
      (pss_one (ps_ret (pv 3)))))
abbrev s_law_led_right : Stmt := topS 59
theorem sc_law_led_right : FnScope ["_law_box_here", "_law_net_here", "_law_handed", "_law_start_here", "_law_goal", "_law_best_here", "_law_flow_here", "_law_told", "_law_at", "_law_has_most"] ["_law_box_here", "_law_net_here", "_law_handed", "_law_start_here", "_law_goal", "_law_best_here"] (defScope s_law_led_right) := ⟨rfl, rfl, rfl, by decide +kernel, rfl, by decide +kernel, by decide +kernel⟩
def t_law_led_right (K : PySem.W.Frag) (C : Addr) (E : XK) : TS :=
    (tSeq (tAsg (tCall (sp_law_flow C) [] E0 (tCons (tVar 0) (tCons (tVar 1) (tCons (tVar 3) (tCons (tVar 4) tNil))))) (gName 6))
    (tSeq (tIfS (tNot (tB (tCall (sp_law_is_flow C) [] E0 (tCons (tVar 1) (tCons (tVar 3) (tCons (tVar 4) (tCons (tVar 6) tNil))))))) (tRet (tC (.bl false))) tNext)
    (tSeq (tFor (iSeq K (tLst (tCons (tCall (sp_led_on C) [] E0 (tCons (tVar 1) (tCons (tVar 3) (tCons (tVar 4) (tCons (tVar 6) tNil))))) (tCons (tCallR (sp_led_on C) E0 (tCons (tCB (rTupOf K) (tCons (tVar 6) tNil)) (tCons (tVar 4) (tCons (tVar 3) (tCons (tVar 2) tNil))))) tNil)))) (gName 7) (tSeq (tIfS (tTest (tOp (fun x y H Q => y = .non ∧ Q (.bl (decide (x = .non))) H) (tVar 5) (tC .non))) (tSeq (tIfS (tTest (tOp (fun x y H Q => y = .non ∧ Q (.bl (!decide (x = .non))) H) (tVar 7) (tC .non))) (tRet (tC (.bl false))) tNext)
    tCont) tNext)
    (tSeq (tIfS (tNot (tB (tCall (sp_law_is_best C) [] E0 (tCons (tVar 1) (tCons (tVar 3) (tCons (tVar 4) (tCons (tVar 5) (tCons (tVar 7) tNil)))))))) (tRet (tC (.bl false))) tNext)
    (tFor (iRng1 (tCons (tCB (rLen K) (tCons (tVar 6) tNil)) tNil)) (gName 8) (tIfS (tAnd (tOr (tTest (tOp (rEqD K) (tOp (rIx K) (tOp (rIx K) (tOp (rIx K) (tVar 1) (tC (.int 1))) (tVar 8)) (tC (.int 0))) (tVar 3))) (tTest (tOp (rEqD K) (tOp (rIx K) (tOp (rIx K) (tOp (rIx K) (tVar 1) (tC (.int 1))) (tVar 8)) (tC (.int 1))) (tVar 4)))) (tTest (tOp (rI0 fun i j => .bl (decide (i < j))) (tOp (rIx K) (tVar 7) (tVar 8)) (tOp (rIx K) (tVar 6) (tVar 8))))) (tRet (tC (.bl false))) tNext)))))
    (tSeq (tAsg (tAndV (tOp (fun x y H Q => y = .non ∧ Q (.bl (!decide (x = .non))) H) (tVar 5) (tC .non)) (tOp (rEqD K) (tCall (sp_worth C) [] E0 (tCons (tVar 1) (tCons (tVar 3) (tCons (tVar 4) (tCons (tVar 6) tNil))))) (tVar 5))) (gName 9))
    (tRet (tOp (rEqD K) (tOp (fun x y H Q => y = .non ∧ Q (.bl (decide (x = .non))) H) (tCall (sp_walk C) [] E0 (tCons (tVar 1) (tCons (tVar 6) (tCons (tVar 3) (tCons (tTup (tCons (tVar 4) tNil)) tNil))))) (tC .non)) (tVar 9)))))))
theorem d_law_led_right (T : Txt K mg) (G_worth : FnOk PG w K mg base (L2.CX PG w) 8 T.f_worth.f T.f_worth.fd ["net", "start", "goal", "flow"] (sp_worth T.C)) (G_walk : FnOk PG w K mg base (L2.CX PG w) 6 T.f_walk.f T.f_walk.fd ["net", "flow", "start", "ends"] (sp_walk T.C)) (G_led_on : FnOk PG w K mg base (L2.CX PG w) 8 T.f_led_on.f T.f_led_on.fd ["net", "start", "goal", "flow"] (sp_led_on T.C)) (G_law_flow : FnOk PG w K mg base (L2.CX PG w) 4 T.f_law_flow.f T.f_law_flow.fd ["_law_box_here", "_law_net_here", "_law_start_here", "_law_goal"] (sp_law_flow T.C)) (G_law_is_flow : FnOk PG w K mg base (L2.CX PG w) 2 T.f_law_is_flow.f T.f_law_is_flow.fd ["_law_net_here", "_law_start_here", "_law_goal", "_law_value"] (sp_law_is_flow T.C)) (G_law_is_best : FnOk PG w K mg base (L2.CX PG w) 7 T.f_law_is_best.f T.f_law_is_best.fd ["_law_net_here", "_law_start_here", "_law_goal", "_law_best_here", "_law_told"] (sp_law_is_best T.C)) (f : Addr) (cdv : Value) (A : Around) (outer : List Env) (s : Shared) (H : Hp) (E : XK) (hr : Room 8 (A.deeper (envOfC "_law_led_right" (defScope s_law_led_right) s.heap.objs.size f cdv))) :
    PSs (cxOf (L2.CX PG w) PG w K mg base ["_law_box_here", "_law_net_here", "_law_handed", "_law_start_here", "_law_goal", "_law_best_here", "_law_flow_here", "_law_told", "_law_at", "_law_has_most"] "_law_led_right" (defScope s_law_led_right) f cdv A outer s H E).nox (defBody s_law_led_right) (t_law_led_right K T.C E) :=
    (pss_cons (ps_set (i := 6) sc_law_led_right.nd rfl (Or.inl rfl) (pe_call G_law_flow (hr.mono (by decide)) rfl T.f_law_flow.g T.f_law_flow.F.kp T.f_law_flow.b .nil passL (pa_cons (pv 0) (pa_cons (pv 1) (pa_cons (pv 3) (pa_cons (pv 4) pa_nil))))))
      (pss_cons (ps_if (pt_not (pt_val (pe_call G_law_is_flow (hr.mono (by decide)) rfl T.f_law_is_flow.g T.f_law_is_flow.F.kp T.f_law_is_flow.b .nil passL (pa_cons (pv 1) (pa_cons (pv 3) (pa_cons (pv 4) (pa_cons (pv 6) pa_nil))))))) (pss_one (ps_ret pe_bl)) pss_nil)
      (pss_cons (ps_for PassesOwn.never rfl (pi_seq (pe_lst (pa_cons (pe_call G_led_on (hr.mono (by decide)) rfl T.f_led_on.g T.f_led_on.F.kp T.f_led_on.b .nil passL (pa_cons (pv 1) (pa_cons (pv 3) (pa_cons (pv 4) (pa_cons (pv 6) pa_nil))))) (pa_cons (pe_callR G_led_on (hr.mono (by decide)) rfl T.f_led_on.g T.f_led_on.F.kp T.kb_led_on passL (pk_cons (pe_callTy call_tuple_of (by rfl) T.mg_tuple bt_tuple (pa_cons (pv 6) pa_nil)) (pk_cons (pv 4) (pk_cons (pv 3) (pk_cons (pv 2) pk_nil))))) pa_nil)))) (pg_name (i := 7) sc_law_led_right.nd rfl (Or.inl rfl)) (pss_cons (ps_if (pt_cmpR op_isN (pv 5) pe_non (nomark _)) (pss_cons (ps_if (pt_cmpR op_notN (pv 7) pe_non (nomark _)) (pss_one (ps_ret pe_bl)) pss_nil)
      (pss_one ps_continue)) pss_nil)
      (pss_cons (ps_if (pt_not (pt_val (pe_call G_law_is_best (hr.mono (by decide)) rfl T.f_law_is_best.g T.f_law_is_best.F.kp T.f_law_is_best.b .nil passL (pa_cons (pv 1) (pa_cons (pv 3) (pa_cons (pv 4) (pa_cons (pv 5) (pa_cons (pv 7) pa_nil)))))))) (pss_one (ps_ret pe_bl)) pss_nil)
      (pss_one (ps_for PassesOwn.never rfl (pi_range1 rfl T.mg_range (pa_cons (pe_callB call_len_seq (by rfl) T.mg_len bt_len (pa_cons (pv 6) pa_nil)) pa_nil)) (pg_name (i := 8) sc_law_led_right.nd rfl (Or.inl rfl)) (pss_one (ps_if (PW.pt (pw_and (PW.pt (pw_or (pt_cmpR (op_eqD hr.units) (pe_ix ix_seq (pe_ix ix_seq (pe_ix ix_seq (pv 1) pe_int (fun _ _ => rfl)) (pv 8) (fun _ _ => rfl)) pe_int (fun _ _ => rfl)) (pv 3) (nomark _)) (pw_or1 (pt_cmpR (op_eqD hr.units) (pe_ix ix_seq (pe_ix ix_seq (pe_ix ix_seq (pv 1) pe_int (fun _ _ => rfl)) (pv 8) (fun _ _ => rfl)) pe_int (fun _ _ => rfl)) (pv 4) (nomark _))))) (pw_and1 (pt_cmpR op_lt (pe_ix ix_seq (pv 7) (pv 8) (fun _ _ => rfl)) (pe_ix ix_seq (pv 6) (pv 8) (fun _ _ => rfl)) (nomark _))))) (pss_one (ps_ret pe_bl)) pss_nil)))))))
      (pss_cons (ps_set (i := 9) sc_law_led_right.nd rfl (Or.inl rfl) (pe_and (pe_cmpR op_notN (pv 5) pe_non (nomark _)) (pe_one (pe_cmpR (op_eqD hr.units) (pe_call G_worth (hr.mono (by decide)) rfl T.f_worth.g T.f_worth.F.kp T.f_worth.b .nil passL (pa_cons (pv 1) (pa_cons (pv 3) (pa_cons (pv 4) (pa_cons (pv 6) pa_nil))))) (pv 5) (nomark _)))))
      (pss_one (ps_ret (pe_cmpR (op_eqD hr.units) (pe_cmpR op_isN (pe_call G_walk (hr.mono (by decide)) rfl T.f_walk.g T.f_walk.F.kp T.f_walk.b .nil passL (pa_cons (pv 1) (pa_cons (pv 6) (pa_cons (pv 3) (pa_cons (pe_tup (pa_cons (pv 4) pa_nil)) pa_nil))))) pe_non (nomark _)) (pv 9) (nomark _))))))))
end
end DL
/-! owned lists seen as data for a while; numbers; more statements -/
namespace DL
open PySem L2
section
variable {e : Ent} {δ : Fm} {te ta tb : TE} {tt : TT} {tr : TA} {tb' : TS} {t1 t2 : TS} {d : PyData} {K : PySem.W.Frag} {D : L2.Ends} {σ : L2.St} {G H : Hp} {E : XK} {C : Addr} {w : V} {R : PyData → Prop} {Rs : List PyData → Prop}
/-- data without a heap -/
def isSc : PyData → Bool
  | .none => true
  | .bool _ => true
  | .int _ => true
  | .str _ => true
  | _ => false
theorem Dg.sc {G G' : Hp} {v : V} (h : Dg G v d) (s : isSc d = true) : Dg G' v d := by
  cases h with
  | non => exact .non
  | bl b => exact .bl b
  | int i => exact .int i
  | str x => exact .str x
  | lst _ _ => cases s
  | tup _ _ => cases s
  | dic _ _ => cases s
theorem DgAll.sc {G G' : Hp} : ∀ {vs : List V} {ds : List PyData}, DgAll G vs ds → ds.all isSc = true → DgAll G' vs ds
  | _, _, .nil, _ => .nil
  | _, _, .cons h r, s => by
    rw [List.all_cons, Bool.and_eq_true] at s
    exact .cons (h.sc s.1) (r.sc s.2)
def NotB (e : Ent) (δ : Fm) (i : Nat) : Prop := ∀ G H σ, Sd e δ G H σ → ∀ a, σ[i]? = some (some (.ref a)) → ¬ e.B a
theorem NotB.of {i : Nat} {bx : Addr} {xs : List PyData} (eB : ∀ a, e.B a → a = bx) (h0 : δ[0]? = some (.b bx)) (hi : δ[i]? = some (.l xs)) (ne : i ≠ 0) : NotB e δ i := fun G H σ S a ha z => by
  have := eB a z
  subst this
  obtain ⟨h1, _⟩ := S.cells 0 _ h0
  exact ne (S.apart i 0 _ _ a hi h0 ha h1)
/-- a walk from a frame in which an owned list is told, and back -/
theorem Sd.view {i : Nat} {xs : List PyData} (S : Sd e δ G H σ) (hi : δ[i]? = some (.l xs)) (nb : NotB e δ i) : ∃ a ys, σ[i]? = some (some (.ref a)) ∧ H a = some (.lst ys) ∧ DgAll G ys xs ∧ Sd e (δ.set i (.d (.list xs))) (upd G a (.lst ys)) H σ ∧
    ∀ G' H', Go e (δ.set i (.d (.list xs))) σ (upd G a (.lst ys)) H G' H' → Go e δ σ G H G H' := by
  obtain ⟨a, ys, h1, h2, h3⟩ := S.cells i _ hi
  obtain ⟨w1, w2⟩ := S.own i _ a hi h1
  have hl : i < δ.length := (List.getElem?_eq_some_iff.mp hi).1
  have S1 := S.forget i
  have eh : e.H a = none := w1.elim (fun z => absurd z (nb G H σ S a h1)) id
  have n : Nob e (δ.set i .no) σ G H a (.lst ys) := ⟨h2, eh, w2, fun j c hj w => by
    by_cases z : j = i
    · subst z; rw [List.getElem?_set_self hl] at hj; cases hj; exact w
    · rw [List.getElem?_set_ne (Ne.symm z)] at hj
      exact z (S.apart j i c _ a hj hi w h1)⟩
  have S2 := S1.tell n
  have g0 : Ex G (upd G a (.lst ys)) := Ex.updN w2
  have S3 := S2.weak (i := i) (c' := .d (.list xs)) (fun _ w => w) ⟨.ref a, h1, .lst upd_same (h3.up g0)⟩
  rw [List.set_set] at S3
  refine ⟨a, ys, h1, h2, h3, S3, fun G' H' g => ?_⟩
  have at_ : ∀ {j : Nat} {c : Cell}, δ[j]? = some c → j ≠ i → (δ.set i (.d (.list xs)))[j]? = some c := fun {j c} h z => by rw [List.getElem?_set_ne (Ne.symm z)]; exact h
  have keep : Kp δ σ H H' := fun b o hb nb' => g.k b o hb fun j bb hj hs => by
    by_cases z : j = i
    · subst z; rw [List.getElem?_set_self hl] at hj; cases hj
    · rw [List.getElem?_set_ne (Ne.symm z)] at hj; exact nb' j bb hj hs
  have ha' : H' a = some (.lst ys) := g.s.sub _ _ (g.g _ _ upd_same)
  have sub : Ex G H' := fun b o hb => g.s.sub _ _ (g.g _ _ (g0 _ _ hb))
  have cell : ∀ (j : Nat) (c : Cell), δ[j]? = some c → CellOk G H' σ[j]? c := fun j c hc => by
    by_cases z : j = i
    · subst z; rw [hi] at hc; cases hc
      exact ⟨a, ys, h1, ha', h3⟩
    · by_cases hb : ∃ b, c = .b b
      · obtain ⟨b, rfl⟩ := hb
        exact g.s.cells j _ (at_ hc z)
      · refine (S.cells j c hc).up Ex.rfl' fun x w u hu => keep x u hu fun k bb hk hs => ?_
        have : j = k := S.apart j k c (.b bb) x hc hk w hs
        subst this
        rw [hc] at hk; cases hk
        exact hb ⟨bb, rfl⟩
  exact ⟨Ex.rfl', keep, fun _ h => .inl h, ⟨sub, S.grow, g.s.old, S.new, g.s.bs, S.len, cell, S.own, S.apart⟩⟩
theorem el_view {i : Nat} {xs ds : List PyData} (hi : δ[i]? = some (.l xs)) (nb : NotB e δ i) (h : ELD e te (δ.set i (.d (.list xs))) ds) (hs : ds.all isSc = true) : ELD e te δ ds := fun σ G H Q S k => by
  obtain ⟨a, ys, h1, h2, h3, S', back⟩ := S.view hi nb
  have hl : i < δ.length := (List.getElem?_eq_some_iff.mp hi).1
  refine h σ _ H Q S' fun xs' p zs G' H' r g n hp q => ?_
  subst r
  have g' := back G' H' g
  refine k xs' p zs G H' rfl g' ⟨n.at_, n.eh, ?_, fun j c hj w => ?_⟩ hp (q.sc hs)
  · cases z : G p with
    | none => rfl
    | some o => rw [S.sub p o z] at hp; cases hp
  · by_cases z : j = i
    · subst z; rw [hi] at hj; cases hj
      have w : σ[j]? = some (some (.ref p)) := w
      rw [h1] at w; cases w
      rw [h2] at hp; cases hp
    · exact n.no j c (by rw [List.getElem?_set_ne (Ne.symm z)]; exact hj) w
theorem ed_view {i : Nat} {xs : List PyData} (hi : δ[i]? = some (.l xs)) (nb : NotB e δ i) (h : ED e te (δ.set i (.d (.list xs))) d) (hs : isSc d = true) : ED e te δ d := fun σ G H Q S k => by
  obtain ⟨a, ys, h1, h2, h3, S', back⟩ := S.view hi nb
  exact h σ _ H Q S' fun d' v G' H' r g q => k d' v G H' r (back G' H' g) (by subst r; exact q.sc hs)
/-- lists joined -/
theorem el_cat {as bs : List PyData} (ha : ELD e ta δ as) (hb : ELD e tb δ bs) (hz : as.length + bs.length ≤ 1000000) : ELD e (tOp rCat ta tb) δ (as ++ bs) := fun σ G H Q S k =>
  ha σ G H _ S fun xs p ys G1 H1 r g n hp a => hb σ G1 H1 _ g.s fun xs2 p2 ys2 G2 H2 r2 g2 n2 hp2 a2 => by
    subst r r2
    refine ⟨p, p2, ys, ys2, rfl, rfl, (n.go g2).at_, n2.at_, lenOk (by rw [a.len, a2.len]; exact hz), fun q hq => ?_⟩
    have x := Ext.allocH (o := .lst (ys ++ ys2)) g2.s.sub hq
    exact k _ q _ G2 _ rfl ((g.trans g2).trans (g2.s.go x)) (Nob.new g2.s hq) ((g.trans g2).back hq) ((a.up g2.g).app a2)
/-- .. lists that stand -/
theorem el_catD {as bs : List PyData} (ha : ED e ta δ (.list as)) (hb : ED e tb δ (.list bs)) (hz : as.length + bs.length ≤ 1000000) : ELD e (tOp rCat ta tb) δ (as ++ bs) := fun σ G H Q S k =>
  ha σ G H _ S fun d1 v1 G1 H1 r g q => hb σ G1 H1 _ g.s fun d2 v2 G2 H2 r2 g2 q2 => by
    subst r r2
    cases q.up g2.g with
    | @lst p ys _ f a =>
      cases q2 with
      | @lst p2 ys2 _ f2 a2 =>
        refine ⟨p, p2, ys, ys2, rfl, rfl, g2.s.sub _ _ f, g2.s.sub _ _ f2, lenOk (by rw [a.len, a2.len]; exact hz), fun q hq => ?_⟩
        have x := Ext.allocH (o := .lst (ys ++ ys2)) g2.s.sub hq
        exact k _ q _ G2 _ rfl ((g.trans g2).trans (g2.s.go x)) (Nob.new g2.s hq) ((g.trans g2).back hq) (a.app a2)
/-! ### numbers -/
theorem ed_toI {i : Int} (h : ED e ta δ (.int i)) : ED e (tCB rInt (tCons ta tNil)) δ (.int i) := er_cb (ea_c h ea_nil) fun _ q G H vs Q s hv k => by
  subst q
  cases hv with
  | cons h1 h2 =>
    cases h2; cases h1
    exact .inl ⟨i, rfl, k _ _ rfl (.int i)⟩
theorem ed_mod {i j : Int} (ha : ED e ta δ (.int i)) (hb : ED e tb δ (.int j)) (hc : 0 < j) : ED e (tOp (rI (fun _ j => 0 < j) fun i j => .int (i % j)) ta tb) δ (.int (i % j)) := ed_op ha hb (ov_I hc fun _ => .int _)
theorem ed_fdiv {i j : Int} (ha : ED e ta δ (.int i)) (hb : ED e tb δ (.int j)) (hc : CDiv i j) : ED e (tOp (rI CDiv fun i j => .int (i / j)) ta tb) δ (.int (i / j)) := ed_op ha hb (ov_I hc fun _ => .int _)
theorem ed_pow {i j : Int} (ha : ED e ta δ (.int i)) (hb : ED e tb δ (.int j)) (hc : CPow i j) : ED e (tOp (rI CPow fun i j => .int (i ^ j.toNat)) ta tb) δ (.int (i ^ j.toNat)) := ed_op ha hb (ov_I hc fun _ => .int _)
/-- any numbers -/
abbrev isI (d : PyData) : Prop := ∃ x : Int, d = .int x
theorem er_i2 {C : Int → Int → Prop} {g : Int → Int → V} (ha : ER e ta δ isI) (hb : ER e tb δ isI) (hc : ∀ i j, C i j) (hd : ∀ i j, ∃ k, g i j = .int k) : ER e (tOp (rI C g) ta tb) δ isI := er_op ha hb fun da db ⟨i, h1⟩ ⟨j, h2⟩ => by
  subst h1 h2
  obtain ⟨k, hk⟩ := hd i j
  exact fun G H x y Q s hx hy kk => by
    cases hx; cases hy
    exact ⟨i, j, rfl, rfl, hc i j, kk _ _ ⟨k, rfl⟩ (by rw [hk]; exact .int k)⟩
theorem er_i0 {g : Int → Int → V} (ha : ER e ta δ isI) (hb : ER e tb δ isI) (hd : ∀ i j, ∃ k, g i j = .int k) : ER e (tOp (rI0 g) ta tb) δ isI := er_op ha hb fun da db ⟨i, h1⟩ ⟨j, h2⟩ => by
  subst h1 h2
  obtain ⟨k, hk⟩ := hd i j
  exact fun G H x y Q s hx hy kk => by
    cases hx; cases hy
    exact ⟨i, j, rfl, rfl, kk _ _ ⟨k, rfl⟩ (by rw [hk]; exact .int k)⟩
theorem er_ci {C : Int → Int → Prop} {g : Int → Int → V} {R' : PyData → Prop} {j : Int} (ha : ER e ta δ isI) (hb : ED e tb δ (.int j)) (hc : ∀ i, C i j) (hd : ∀ i, ∃ d, R' d ∧ ∀ G, Dg G (g i j) d) : ER e (tOp (rI C g) ta tb) δ R' := er_op ha hb fun da db ⟨i, h1⟩ h2 => by
  subst h1 h2
  obtain ⟨d, hr, hk⟩ := hd i
  exact fun G H x y Q s hx hy kk => by
    cases hx; cases hy
    exact ⟨i, j, rfl, rfl, hc i, kk _ _ hr (hk _)⟩
theorem er_toI (h : ER e ta δ isI) : ER e (tCB rInt (tCons ta tNil)) δ isI := er_cb (Rs := fun ds => ∃ i : Int, ds = [.int i]) (ea_cons h ea_nil fun d ds ⟨i, q1⟩ q2 => ⟨i, by rw [q1, q2]⟩) fun _ ⟨i, q⟩ G H vs Q s hv k => by
  subst q
  cases hv with
  | cons h1 h2 =>
    cases h2; cases h1
    exact .inl ⟨i, rfl, k _ _ ⟨i, rfl⟩ (.int i)⟩
theorem er_int (i : Int) : ER e (tC (.int i)) δ isI := ER.to ed_int ⟨i, rfl⟩
theorem er_v {i : Nat} {x : Int} (h : (δ[i]?).bind cellD = some (.int x)) : ER e (tVar i) δ isI := ER.to (ed_var h) ⟨x, rfl⟩
theorem et_cmp {g : Int → Int → Bool} (ha : ER e ta δ isI) (hb : ER e tb δ isI) : ET e (tTest (tOp (rI0 fun i j => .bl (g i j)) ta tb)) δ fun _ => True := et_T (er_op ha hb fun da db ⟨i, h1⟩ ⟨j, h2⟩ => by
  subst h1 h2
  exact fun G H x y Q s hx hy kk => by
    cases hx; cases hy
    exact ⟨i, j, rfl, rfl, kk _ _ ⟨g i j, rfl, trivial⟩ (.bl _)⟩)
end
end DL
namespace DL
open PySem L2
section
variable {e : Ent} {δ : Fm} {te ta tb : TE} {t : TT} {tr : TA} {t1 t2 t3 : TS} {d : PyData} {K : PySem.W.Frag} {D : L2.Ends} {σ : L2.St} {G H : Hp} {E : XK} {C : Addr} {w : V} {R : PyData → Prop} {Rs : List PyData → Prop}
theorem q_ifR {Rt : Bool → Prop} (S : Sd e δ G H σ) (h : ET e t δ Rt) (h1 : Rt true → ∀ G' H', Ex G G' → Sd e δ G' H' σ → t1 { D with nx := t2 D } σ H') (h2 : Rt false → ∀ G' H', Ex G G' → Sd e δ G' H' σ → t2 D σ H') : tSeq (tIfS t t1 tNext) t2 D σ H := seq (s_if S h h1 h2)
theorem q_setB {i n : Nat} {bx : Addr} (S : Sd e δ G H σ) (hi : δ[i]? = some (.b bx)) (h : ER e te δ fun d => ∃ x : Int, d = .int x) (hb : ED e tb δ (iD n)) (hn : n < 2) (k : ∀ G' H', Ex G G' → Sd e δ G' H' σ → t2 D σ H') : tSeq (tAsg te (gSub (tVar i) tb rSetL)) t2 D σ H := seq (s_setB S hi h hb hn k)
end
section
variable {K : PySem.W.Frag} {C : Addr} {E E' : XK} {vs : List V} {H : Hp} {Q : VK}
theorem modN {n : Nat} (hn : 0 < n) (i : Int) : ∃ d, (∃ k, k < n ∧ d = iD k) ∧ ∀ G, Dg G (V.int (i % (n : Int))) d := by
  have h0 : 0 ≤ i % (n : Int) := Int.emod_nonneg _ (by omega)
  have h1 : i % (n : Int) < n := Int.emod_lt_of_pos _ (by omega)
  refine ⟨iD (i % (n : Int)).toNat, ⟨_, by omega, rfl⟩, fun G => ?_⟩
  unfold iD
  rw [Int.toNat_of_nonneg h0]
  exact .int _
theorem pu_law_take (h : sp_law_take C vs H Q E) : t_law_take K C E' { nx := fun _ H' => Q .non H', rt := Q } (L2.start ["_law_box_here", "_law_many", "_law_digit", "_law_raw"] vs) H := by
  obtain ⟨n, bx, v1, G, e, rfl, d1, i⟩ := BP.in1 h (fun _ => rfl) ["_law_box_here", "_law_many", "_law_digit", "_law_raw"] (by decide)
  obtain ⟨n0, n1⟩ := i.pre
  have mI : ∀ (c : Int), -(2 ^ 64) < c ∧ c < 2 ^ 64 → ∀ i, CMul i c := fun c hc i => .inr hc
  have iI : ∀ (f : Int → Int) (i : Int), ∃ d, isI d ∧ ∀ G, Dg G (V.int (f i)) d := fun f i => ⟨_, ⟨f i, rfl⟩, fun _ => .int _⟩
  refine q_ifR i.S (et_cmp (er_box rfl ed_int (by decide)) (er_int 0)) (fun _ G1 H1 _ S1 => ?_) fun _ G1 H1 _ S1 => ?_
  · refine q_asg (R := fun d => ∃ k, k < n ∧ d = iD k) S1 (er_ci (er_toI (er_box rfl ed_int (by decide))) (ed_var rfl) (fun _ => by show (0 : Int) < n; omega) (modN n0)) fun d v2 G2 H2 ⟨k, hk, q⟩ _ _ S2 => ?_
    subst q
    refine q_setB (n := 0) S2 rfl (er_ci (er_box rfl ed_int (by decide)) (ed_var rfl) (fun _ => ⟨by show (0 : Int) < n; omega, by show (n : Int) < _; omega⟩) (iI fun i => i / n)) ed_int (by decide) fun G3 H3 _ S3 => ?_
    exact s_outB S3 rfl (ed_var rfl) i.rt fun d q => ⟨k, hk, q⟩
  · refine q_asg (R := isI) S1 (er_ci (er_toI (er_i0 (er_ci (er_box rfl ed_int (by decide)) ed_int (mI 39373 (by decide)) (iI fun i => i * 39373)) (er_int 71) fun i j => ⟨_, rfl⟩)) ed_int (fun _ => by decide) (iI fun i => i % 2147483647)) fun d v2 G2 H2 ⟨x, q⟩ _ _ S2 => ?_
    subst q
    refine q_setB (n := 1) S2 rfl (er_i0 (er_ci (er_toI (er_i0 (er_ci (er_v rfl) ed_int (mI 40692 (by decide)) (iI fun i => i * 40692)) (er_int 37) fun i j => ⟨_, rfl⟩)) ed_int (fun _ => by decide) (iI fun i => i % 2147483563)) (er_int 1) fun i j => ⟨_, rfl⟩) ed_int (by decide) fun G3 H3 _ S3 => ?_
    exact s_outB (Ra := fun d => ∃ k, k < n ∧ d = iD k) S3 rfl (er_ci (er_toI (er_ci (er_i0 (er_ci (er_v rfl) ed_int (mI 2147483629 (by decide)) (iI fun i => i * 2147483629)) (er_box rfl ed_int (by decide)) fun i j => ⟨_, rfl⟩) ed_int (fun _ => ⟨by decide, by decide⟩) (iI fun i => i / 8233))) (ed_var rfl) (fun _ => by show (0 : Int) < n; omega) (modN n0)) i.rt fun d q => q
theorem pu_law_pick (h : sp_law_pick C vs H Q E) : t_law_pick K C E' { nx := fun _ H' => Q .non H', rt := Q } (L2.start ["_law_box_here", "_law_some"] vs) H := by
  obtain ⟨xs, bx, v1, G, e, rfl, d1, i⟩ := BP.in1 h (fun _ => rfl) ["_law_box_here", "_law_some"] (by decide)
  obtain ⟨n0, n1⟩ := i.pre
  refine s_outB (Ra := fun d => ∃ k : Nat, xs[k]? = some d) i.S rfl (er_op (Ra := fun d => d = .list xs) (Rb := fun d => ∃ k, k < xs.length ∧ d = iD k) (ed_var rfl) (ed_callB rfl xs.length (ea_c (ed_len rfl (ed_var rfl) .l) ea_nil) ⟨n0, n1⟩ fun d q => q) fun da db h1 ⟨k, hk, h2⟩ => ?_) i.rt fun d q => q
  subst h1 h2
  exact fun G H x y Q s hx hy kk => ov_ix (d := xs[k]) .l (atI_nat (List.getElem?_eq_getElem hk)) G H x y Q s hx hy fun d v q => kk d v ⟨k, by rw [q]; exact List.getElem?_eq_getElem hk⟩
/-- the arcs that were drawn -/
theorem pu_law_net (h : sp_law_net C vs H Q E) : t_law_net K C E' { nx := fun _ H' => Q .non H', rt := Q } (L2.start ["_law_box_here", "_law_nodes", "_law_most", "_law_many", "_law_found", "_law_turn", "_law_tail", "_law_head", "_law_bears", "_law_arc"] vs) H := by
  obtain ⟨⟨nn, mm⟩, bx, v1, v2, G, e, rfl, d1, d2, i⟩ := BP.in2 h (fun _ => rfl) ["_law_box_here", "_law_nodes", "_law_most", "_law_many", "_law_found", "_law_turn", "_law_tail", "_law_head", "_law_bears", "_law_arc"] (by decide)
  obtain ⟨h1, h2, h3⟩ := i.pre
  have h1 : 2 ≤ nn := h1
  have h2 : nn ≤ 100 := h2
  have h3 : mm ≤ 100 := h3
  refine q_asg (R := fun d => ∃ n, 2 ≤ n ∧ n ≤ nn ∧ d = iD n) i.S (er_op (Ra := fun d => d = .int 2) (Rb := fun d => ∃ k, k < nn - 1 ∧ d = iD k) ed_int (ed_callB rfl (nn - 1) (ea_c (ER.is (ed_sub (ed_var rfl) ed_int) (by show PyData.int ((nn : Int) - 1) = .int ((nn - 1 : Nat) : Int); congr 1; omega)) ea_nil) ⟨by omega, by omega⟩ fun d q => q) fun da db q1 ⟨k, hk, q2⟩ => ?_) fun d v3 G1 H1 ⟨n, n0, n1, q⟩ _ _ S1 => ?_
  · subst q1 q2
    exact fun G H x y Q s hx hy kk => ov_I0 (d := .int (2 + (k : Int))) (fun _ => .int _) G H x y Q s hx hy fun d v q => kk d v ⟨2 + k, by omega, by omega, by rw [q]; show PyData.int _ = PyData.int _; congr 1⟩
  subst q
  let F (as : List FM.Arc) (c5 c6 c7 c8 : Cell) : Fm := [.b bx, Cell.p v1 (iD nn), Cell.p v2 (iD mm), .d (iD n), .l (as.map arcD), c5, c6, c7, c8, .no]
  refine q_asgL S1 (el_lst ea_nil fun _ q => by rw [q]; decide) fun xs p G2 H2 q _ _ S2 => ?_
  subst q
  have S2 : Sd e (F [] .no .no .no .no) G2 H2 _ := S2
  refine seq (s_for (Ri := fun items => ∃ k, k < mm + 1 ∧ items = natsD k) S2 ?_ fun items ⟨k, hk, q⟩ => ⟨fun j δ => ∃ as c5 c6 c7 c8, δ = F as c5 c6 c7 c8 ∧ FM.Wf n as ∧ as.length = j, ⟨[], .no, .no, .no, .no, rfl, fun a ha => (nomatch ha), rfl⟩, ?_, ?_⟩)
  · -- how many
    intro σ G H R S kk
    refine er_callB (R := fun d => ∃ k, k < mm + 1 ∧ d = iD k) (Rs := fun ds => ds = [iD (mm + 1)]) rfl (ea_c (ER.is (ed_add (ed_var rfl) ed_int) (by show PyData.int ((mm : Int) + 1) = PyData.int ((mm + 1 : Nat) : Int); congr 1)) ea_nil) (fun ds q => ⟨mm + 1, q, ⟨by omega, by omega⟩, fun d q => q⟩) σ G H _ S fun d v G1 H1 ⟨k, hk, q⟩ g dv => ?_
    subst q
    cases dv
    refine ⟨k, rfl, by omega, by omega, kk _ _ G1 H1 ⟨k, hk, rfl⟩ g ⟨fun H _ => ?_, fun i d G2 H2 g2 s2 hd => ?_⟩⟩
    · show (k : Int).toNat ≤ _
      rw [natsD_len]; omega
    · obtain ⟨h1, h2⟩ := natsD_at hd
      subst h2
      refine ⟨show i < (k : Int).toNat by omega, fun v H' ⟨e1, e2⟩ => ?_⟩
      subst e1 e2
      exact ⟨G2, Ext.refl s2, by rw [Int.zero_add]; exact .int _⟩
  · intro e1 sb j d δ1 σ1 G3 H3 hd hP S3
    obtain ⟨as, c5, c6, c7, c8, rfl, wf, hl⟩ := hP
    subst q
    obtain ⟨hj, rfl⟩ := natsD_at hd
    refine ⟨_, _, ga_name, fun σ2 G4 H4 S4 => ?_⟩
    have S4 : Sd e1 (F as (.d (iD j)) c6 c7 c8) G4 H4 σ2 := S4
    have tk : ∀ {δ' : Fm}, δ'[0]? = some (.b bx) → (δ'[3]?).bind cellD = some (iD n) → ER e1 (tCall (sp_law_take C) [] E0 (tCons (tVar 0) (tCons (tVar 3) tNil))) δ' fun d => ∃ k, k < n ∧ d = iD k := fun h0 h3' => ed_callB h0 n (ea_c (ed_var h3') ea_nil) ⟨by omega, by omega⟩ fun d q => q
    refine q_par (Rs := fun ds => ∃ a b, a < n ∧ b < n ∧ ds = [iD a, iD b]) S4 (ea_cons (tk rfl rfl) (ea_cons (tk rfl rfl) ea_nil (Rc := fun ds => ∃ b, b < n ∧ ds = [iD b]) fun d ds ⟨k, hk, q⟩ q2 => ⟨k, hk, by rw [q, q2]⟩) fun d ds ⟨k, hk, q⟩ ⟨b, hb, q2⟩ => ⟨k, b, hk, hb, by rw [q, q2]⟩) (fun ds ⟨a, b, _, _, q⟩ => by rw [q]; rfl) fun x1 x2 w1 w2 G5 H5 ⟨a, b, ha, hb, q⟩ _ S5 => ?_
    cases q
    have S5 : Sd e1 (F as (.d (iD j)) (.d (iD a)) (.d (iD b)) c8) G5 H5 _ := S5
    have n1' : n ≤ 100 := by omega
    have rest : ∀ (a : Nat) σ G H, a < n → Sd e1 (F as (.d (iD j)) (.d (iD a)) (.d (iD b)) c8) G H σ → tSeq (tAsg (tCall (sp_law_pick C) [] E0 (tCons (tVar 0) (tCons (tLst (tCons (tC (.int 0)) (tCons (tC (.int 1)) (tCons (tC (.int 1)) (tCons (tC (.int 2)) (tCons (tC (.int 3)) (tCons (tC (.int 5)) tNil))))))) tNil))) (gName 8))
        (tDrop (tBM K "list" rAppend (tVar 4) (tCons (tTup (tCons (tVar 6) (tCons (tVar 7) (tCons (tIf (tTest (tOp (rI0 fun i j => .bl (decide (j < i))) (tCall (sp_law_take C) [] E0 (tCons (tVar 0) (tCons (tC (.int 12)) tNil))) (tC (.int 0)))) (tVar 8) (tCall (sp_law_pick C) [] E0 (tCons (tVar 0) (tCons (tLst (tCons (tC .non) (tCons (tC .non) (tCons (tOp (rI CPow fun i j => .int (i ^ j.toNat)) (tC (.int 10)) (tC (.int 8))) tNil)))) tNil)))) tNil)))) tNil)))
        { nx := Nx e1 (fun δ => ∃ as c5 c6 c7 c8, δ = F as c5 c6 c7 c8 ∧ FM.Wf n as ∧ as.length = j + 1), ct := Nx e1 (fun δ => ∃ as c5 c6 c7 c8, δ = F as c5 c6 c7 c8 ∧ FM.Wf n as ∧ as.length = j + 1), bk := tRet (tTup (tCons (tVar 3) (tCons (tCB (rTupOf K) (tCons (tVar 4) tNil)) tNil))) { nx := fun _ H' => Q .non H', rt := Q }, rt := Q } σ H := fun a σ G H ha S => by
      refine q_asg (R := fun d => ∃ m : Int, 0 ≤ m ∧ d = .int m) S (ed_callB rfl [.int 0, .int 1, .int 1, .int 2, .int 3, .int 5] (ea_c (el_ed (el_lst (ea_c ed_int (ea_c ed_int (ea_c ed_int (ea_c ed_int (ea_c ed_int (ea_c ed_int ea_nil)))))) fun _ q => by rw [q]; decide)) ea_nil) (by decide) fun d ⟨k, q⟩ => ?_) fun d w3 G1 H1 ⟨m, hm, q⟩ _ _ S1 => ?_
      · match k, q with
        | 0, q => exact ⟨0, by decide, (Option.some.inj q).symm⟩
        | 1, q => exact ⟨1, by decide, (Option.some.inj q).symm⟩
        | 2, q => exact ⟨1, by decide, (Option.some.inj q).symm⟩
        | 3, q => exact ⟨2, by decide, (Option.some.inj q).symm⟩
        | 4, q => exact ⟨3, by decide, (Option.some.inj q).symm⟩
        | 5, q => exact ⟨5, by decide, (Option.some.inj q).symm⟩
        | _ + 6, q => cases q
      subst q
      have S1 : Sd e1 (F as (.d (iD j)) (.d (iD a)) (.d (iD b)) (.d (.int m))) G1 H1 _ := S1
      refine s_app (R := fun d => ∃ x : FM.Arc, FM.WfA n x ∧ d = arcD x) S1 rfl (er_tup (Rs := fun ds => ∃ x : FM.Arc, FM.WfA n x ∧ ds = [iD x.tl, iD x.hd, optD x.mo]) ?_ (fun ds ⟨x, _, q⟩ => by rw [q]; exact (show 3 ≤ 1000000 by decide)) fun ds ⟨x, hx, q⟩ => ⟨x, hx, by rw [q]; rfl⟩) (by rw [List.length_map]; omega) fun d G2 H2 ⟨x, hx, q⟩ _ S2 => ?_
      · refine ea_cons (Rs := fun ds => ∃ o : Option Int, (∀ m, o = some m → 0 ≤ m) ∧ ds = [iD b, optD o]) (ed_var rfl) (ea_cons (ed_var rfl) (ea_cons (Ra := fun d => ∃ o : Option Int, (∀ m, o = some m → 0 ≤ m) ∧ d = optD o) (Rc := fun ds => ∃ o : Option Int, (∀ m, o = some m → 0 ≤ m) ∧ ds = [optD o]) ?_ ea_nil fun d ds ⟨o, ho, q⟩ q2 => ⟨o, ho, by rw [q, q2]⟩) fun d ds q ⟨o, ho, q2⟩ => ⟨o, ho, by rw [q, q2]⟩) fun d ds q ⟨o, ho, q2⟩ => ⟨⟨a, b, o⟩, ⟨ha, hb, ho⟩, by rw [q, q2]⟩
        refine er_if (Rt := fun _ => True) (et_cmp (ER.mono (ed_callB rfl 12 (ea_c ed_int ea_nil) ⟨by decide, by decide⟩ fun d q => q) fun d ⟨k, _, q⟩ => ⟨_, q⟩) (er_int 0)) (fun _ => ER.to (ed_var rfl) ⟨some m, fun m' hm' => by cases hm'; exact hm, rfl⟩) fun _ => ?_
        refine ed_callB rfl [.none, .none, .int (10 ^ 8)] (ea_c (el_ed (el_lst (ea_c ed_non (ea_c ed_non (ea_c (ed_pow ed_int ed_int ⟨by decide, by decide, by decide⟩) ea_nil))) fun _ q => by rw [q]; decide)) ea_nil) (by decide) fun d ⟨k, q⟩ => ?_
        match k, q with
        | 0, q => exact ⟨none, fun _ h => (nomatch h), (Option.some.inj q).symm⟩
        | 1, q => exact ⟨none, fun _ h => (nomatch h), (Option.some.inj q).symm⟩
        | 2, q => exact ⟨some (10 ^ 8), fun m h => by cases h; decide, (Option.some.inj q).symm⟩
        | _ + 3, q => cases q
      · subst q
        refine ⟨_, G2, ⟨as ++ [x], .d (iD j), .d (iD a), .d (iD b), .d (.int m), rfl, fun y hy => ?_, by simp [hl]⟩, ?_⟩
        · rcases List.mem_append.mp hy with z | z
          · exact wf y z
          · have : y = x := by simpa using z
            rw [this]; exact hx
        · have e2 : as.map arcD ++ [arcD x] = (as ++ [x]).map arcD := by rw [List.map_append]; rfl
          rw [e2] at S2
          exact S2
    refine seq (s_if (Rt := fun _ => True) S5 (et_cmp (er_ci (er_v rfl) ed_int (fun _ => by decide) fun i => ⟨_, ⟨i % 3, rfl⟩, fun _ => .int _⟩) (er_int 0)) (fun _ G6 H6 _ S6 => ?_) fun _ G6 H6 _ S6 => rest a _ G6 H6 ha S6)
    refine s_asg (R := fun d => ∃ a', a' < n ∧ d = iD a') S6 (ed_callB rfl ([iD 0] ++ as.map fun x => iD x.hd) (ea_c (el_ed (el_cat (el_lst (ea_c ed_int ea_nil) fun _ q => by rw [q]; decide) (el_view (i := 4) (xs := as.map arcD) rfl (NotB.of (bx := bx) (by rw [sb.b]; exact i.eB) rfl rfl (by decide)) (el_map (xs := as) (enc := arcD) (f := fun x => iD x.hd) (δ' := fun x => ((F as (.d (iD j)) (.d (iD a)) (.d (iD b)) c8).set 4 (.d (.list (as.map arcD)))).set 9 (.d (arcD x))) (it_seq (ed_var rfl) .l) (by simp) rfl (fun p _ => ga_name) (fun _ _ => rfl) (fun x _ => ed_ix (n := 1) (ed_var rfl) ed_int .t rfl) (by omega)) (by rw [List.all_map, List.all_eq_true]; intro x _; rfl)) (by simp; omega))) ea_nil) ⟨by simp, by simp; omega⟩ fun d ⟨k, q⟩ => ?_) fun d w3 G7 H7 ⟨a', ha', q⟩ _ _ S7 => ?_
    · have hm := List.mem_of_getElem? q
      rcases List.mem_append.mp hm with z | z
      · exact ⟨0, by omega, by simpa using z⟩
      · obtain ⟨x, hx, rfl⟩ := List.mem_map.mp z
        exact ⟨x.hd, (wf x hx).2.1, rfl⟩
    · subst q
      exact rest a' _ G7 H7 ha' S7
  · intro δn σn Gn Hn hP _ Sn
    obtain ⟨as, c5, c6, c7, c8, rfl, wf, hl⟩ := hP
    subst q
    rw [natsD_len] at hl
    exact s_outB (Ra := fun d => d = netD n as) Sn rfl (ER.is (ed_tup (ea_c (ed_var rfl) (ea_c (ed_tupO rfl rfl) ea_nil)) (show 2 ≤ 1000000 by decide)) rfl) i.rt fun d q => ⟨n, as, q, n0, n1, wf, by show as.length ≤ mm; omega⟩
end
end DL
namespace DL
open PySem L2
theorem eqv_nil (xs : List PyData) : PyData.eqv (.list xs) (.list []) = xs.isEmpty := by
  cases xs <;> simp [PyData.eqv, PyData.eqvAll]
def isNb : PyData → Bool
  | .none => true
  | .bool _ => true
  | .int _ => true
  | _ => false
theorem nb_shape {d : PyData} (h : isNb d = true) : d.canLay0 = true ∧ d.depth = 0 := by
  cases d <;> simp [isNb] at h <;> simp [PyData.canLay0, PyData.depth]
theorem nbs_shape : ∀ {xs : List PyData}, xs.all isNb = true → PyData.canLayAll0 xs = true ∧ PyData.depthAll xs = 0
  | [], _ => by simp [PyData.canLayAll0, PyData.depthAll]
  | x :: xs, h => by
    simp only [Bool.and_eq_true, List.all_cons] at h
    obtain ⟨h1, h2⟩ := nb_shape h.1
    obtain ⟨h3, h4⟩ := nbs_shape h.2
    simp [PyData.canLayAll0, PyData.depthAll, h1, h2, h3, h4]
theorem shp_nbs {xs : List PyData} (h : xs.all isNb = true) : shp (.list xs) = true := by
  obtain ⟨h1, h2⟩ := nbs_shape h
  simp [shp, SeqAt.shaped, PyData.canLay0, PyData.depth, h1, h2]
theorem nb_ints {α : Type} (xs : List α) (f : α → Int) : (xs.map fun x => PyData.int (f x)).all isNb = true := by rw [List.all_map, List.all_eq_true]; intro x _; rfl
section
variable {e : Ent} {δ : Fm} {ta : TE} {K : PySem.W.Frag}
/-- a new list that is none -/
theorem ed_eqNil {xs : List PyData} (h : ELD e ta δ xs) (hn : xs.all isNb = true) : ED e (tOp (rEqD K) ta (tLst tNil)) δ (.bool xs.isEmpty) := ER.is (ed_eqD (el_ed h) (el_ed (el_lst ea_nil fun _ q => by rw [q]; decide)) (shp_nbs hn) (by decide)) (by rw [eqv_nil])
theorem ed_neNil {xs : List PyData} (h : ELD e ta δ xs) (hn : xs.all isNb = true) : ED e (tOp (rNeD K) ta (tLst tNil)) δ (.bool (!xs.isEmpty)) := ER.is (ed_neD (el_ed h) (el_ed (el_lst ea_nil fun _ q => by rw [q]; decide)) (shp_nbs hn) (by decide)) (by rw [eqv_nil])
theorem ed_eqNilD {xs : List PyData} (h : ED e ta δ (.list xs)) (hn : shp (.list xs) = true) : ED e (tOp (rEqD K) ta (tLst tNil)) δ (.bool xs.isEmpty) := ER.is (ed_eqD h (el_ed (el_lst ea_nil fun _ q => by rw [q]; decide)) hn (by decide)) (by rw [eqv_nil])
theorem ed_neNilD {xs : List PyData} (h : ED e ta δ (.list xs)) (hn : shp (.list xs) = true) : ED e (tOp (rNeD K) ta (tLst tNil)) δ (.bool (!xs.isEmpty)) := ER.is (ed_neD h (el_ed (el_lst ea_nil fun _ q => by rw [q]; decide)) hn (by decide)) (by rw [eqv_nil])
end
/-! ### sums at a node, by places -/
def inS : List FM.Arc → List Int → Nat → Int
  | a :: as, x :: l, v => FM.one (a.hd == v) x + inS as l v
  | _, _, _ => 0
def outS : List FM.Arc → List Int → Nat → Int
  | a :: as, x :: l, v => FM.one (a.tl == v) x + outS as l v
  | _, _, _ => 0
theorem sur_io : ∀ (as : List FM.Arc) (l : List Int) (v : Nat), FM.sur as l v = inS as l v - outS as l v
  | [], l, v => by cases l <;> rfl
  | _ :: _, [], v => rfl
  | a :: as, x :: l, v => by
    have ih := sur_io as l v
    simp only [FM.sur, inS, outS, ih]; omega
def arc0 : FM.Arc := ⟨0, 0, none⟩
theorem by_place (g : FM.Arc → Nat) (v : Nat) : ∀ (as : List FM.Arc) (l : List Int), l.length = as.length →
    (((List.range l.length).filter fun i => decide (g (as.getD i arc0) = v)).map fun i => l.getD i 0).sum = (as.zip l).foldr (fun p s => FM.one (g p.1 == v) p.2 + s) 0
  | [], [], _ => rfl
  | [], _ :: _, h => absurd h (by simp)
  | _ :: _, [], h => absurd h (by simp)
  | a :: as, x :: l, h => by
    have ih := by_place g v as l (by simpa using h)
    rw [List.length_cons, List.range_succ_eq_map, List.filter_cons, List.zip_cons_cons, List.foldr_cons, ← ih, List.filter_map]
    have e1 : ((fun i => decide (g ((a :: as).getD i arc0) = v)) ∘ Nat.succ) = fun i => decide (g (as.getD i arc0) = v) := by
      funext i; simp
    have e2 : ((fun i => (x :: l).getD i 0) ∘ Nat.succ) = fun i => l.getD i 0 := by
      funext i; simp
    by_cases q : g a = v
    · simp only [List.getD_cons_zero, q, decide_true, if_true, List.map_cons, List.sum_cons, List.map_map, e1, e2]
      simp [FM.one]
    · simp only [List.getD_cons_zero, q, decide_false, Bool.false_eq_true, if_false, List.map_map, e1, e2]
      simp [FM.one, q]
theorem fold_in (v : Nat) : ∀ (as : List FM.Arc) (l : List Int), (as.zip l).foldr (fun p s => FM.one (p.1.hd == v) p.2 + s) 0 = inS as l v
  | [], l => by cases l <;> rfl
  | _ :: _, [] => rfl
  | a :: as, x :: l => by
    rw [List.zip_cons_cons, List.foldr_cons, fold_in v as l]; rfl
theorem fold_out (v : Nat) : ∀ (as : List FM.Arc) (l : List Int), (as.zip l).foldr (fun p s => FM.one (p.1.tl == v) p.2 + s) 0 = outS as l v
  | [], l => by cases l <;> rfl
  | _ :: _, [] => rfl
  | a :: as, x :: l => by
    rw [List.zip_cons_cons, List.foldr_cons, fold_out v as l]; rfl
theorem getD_some {α : Type} {xs : List α} {i : Nat} {x d : α} (h : xs[i]? = some x) : xs.getD i d = x := by rw [List.getD_eq_getElem?_getD, h]; rfl
section
variable {K : PySem.W.Frag} {C : Addr} {E E' : XK} {vs : List V} {H : Hp} {Q : VK}
/-- an arc's own item -/
theorem ed_arc {e : Ent} {δ : Fm} {ta tb : TE} {as : List FM.Arc} {i k : Nat} {a : FM.Arc} {d : PyData} (ha : ED e ta δ (arcsD as)) (hb : ED e tb δ (iD i)) (hi : as[i]? = some a) (hd : [iD a.tl, iD a.hd, optD a.mo][k]? = some d) : ED e (tOp (rIx K) (tOp (rIx K) ta tb) (tC (.int (k : Int)))) δ d :=
  ed_ix (n := k) (da := arcD a) (ed_ix (n := i) ha hb .t (by rw [List.getElem?_map, hi]; rfl)) ed_int .t hd
theorem pu_law_more (h : sp_law_more C vs H Q E) : t_law_more K C E' { nx := fun _ H' => Q .non H', rt := Q } (L2.start ["_law_net_here", "_law_load", "_law_node", "_law_some", "_law_at"] vs) H := by
  obtain ⟨⟨⟨n, as, b, l⟩, v⟩, v1, v2, v3, G, e, rfl, d1, d2, d3, i⟩ := SP.in3 h (fun _ => rfl) ["_law_net_here", "_law_load", "_law_node", "_law_some", "_law_at"] (by decide)
  obtain ⟨sz, hl⟩ := i.pre
  have sz : as.length ≤ 1000 := sz
  have hl : l.length = as.length := hl
  have key : ∀ {δ' : Fm} (k : Nat) (g : FM.Arc → Nat), (∀ a : FM.Arc, [iD a.tl, iD a.hd, optD a.mo][k]? = some (iD (g a))) → (δ'[0]?).bind cellD = some (netD n as) → (δ'[1]?).bind cellD = some (sqD b (l.map PyData.int)) → (δ'[2]?).bind cellD = some (iD v) → δ'.length = 5 → wipeC δ' [4] = δ' →
      ELD e (tLc (iRng1 (tCons (tCB (rLen K) (tCons (tVar 1) tNil)) tNil)) (gName 4) (tTest (tOp (rEqD K) (tOp (rIx K) (tOp (rIx K) (tOp (rIx K) (tVar 0) (tC (.int 1))) (tVar 4)) (tC (.int (k : Int)))) (tVar 2))) (tOp (rIx K) (tVar 1) (tVar 4)) [4]) δ' (((List.range l.length).filter fun i => decide (g (as.getD i arc0) = v)).map fun i => PyData.int (l.getD i 0)) := fun {δ'} k g hk c0 c1 c2 len hw => by
    have s4 : ∀ x : Cell, (δ'.set 4 x)[4]? = some x := fun x => List.getElem?_set_self (by omega)
    have sn : ∀ (x : Cell) (j : Nat), j ≠ 4 → (δ'.set 4 x)[j]? = δ'[j]? := fun x j h => List.getElem?_set_ne (Ne.symm h)
    refine el_lc (xs := List.range l.length) (enc := iD) (δ' := fun i => δ'.set 4 (.d (iD i))) (it_range1 (ea_c (ER.is (ed_len rfl (ed_var c1) (sqD_seq b _)) (by rw [List.length_map])) ea_nil) (by omega)) (by simp) hw (fun p _ => ga_name) (fun i _ => by show (δ'.set 4 (.d (iD i))).set 4 .no = δ'; rw [List.set_set]; exact hw) (fun i hi => ?_) (fun i hi _ => ?_) (by simp; omega)
    · have hi := List.mem_range.mp hi
      have ha : as[i]? = some as[i] := List.getElem?_eq_getElem (by omega)
      refine eb_T (ER.is (ed_eqD (ed_arc (as := as) (i := i) (ed_ix (n := 1) (da := netD n as) (ed_var (by rw [sn _ 0 (by decide)]; exact c0)) ed_int .t rfl) (ed_var (by rw [s4]; rfl)) ha (hk _)) (ed_var (by rw [sn _ 2 (by decide)]; exact c2)) rfl rfl) ?_)
      rw [eqv_iD, getD_some ha]
    · have hi := List.mem_range.mp hi
      have hx : l[i]? = some l[i] := List.getElem?_eq_getElem hi
      refine ed_ix (n := i) (ed_var (by rw [sn _ 1 (by decide)]; exact c1)) (ed_var (by rw [s4]; rfl)) (sqD_seq b _) ?_
      rw [List.getElem?_map, hx, getD_some hx]; rfl
  have im : ∀ (g : FM.Arc → Nat), ((List.range l.length).filter fun i => decide (g (as.getD i arc0) = v)).map (fun i => PyData.int (l.getD i 0)) = (((List.range l.length).filter fun i => decide (g (as.getD i arc0) = v)).map fun i => l.getD i 0).map PyData.int := fun g => by rw [List.map_map]; rfl
  refine q_set i.S (el_ed (key 1 (·.hd) (fun _ => rfl) rfl rfl rfl rfl rfl)) fun w G1 H1 _ _ S1 => ?_
  rw [im (·.hd)] at S1
  refine s_out (Ra := fun d => d = .int (FM.sur as l v)) S1 (ER.is (ed_sub (ed_sum (ed_var rfl)) (ed_sum (ns := ((List.range l.length).filter fun i => decide ((as.getD i arc0).tl = v)).map fun i => l.getD i 0) (ER.is (el_ed (key 0 (·.tl) (fun _ => rfl) rfl rfl rfl rfl rfl)) (by rw [im (·.tl)])))) ?_) (i.rt rfl) fun d q => q
  rw [by_place (·.hd) v as l hl, by_place (·.tl) v as l hl, fold_in, fold_out, sur_io]
theorem pu_law_is_load (h : sp_law_is_load C vs H Q E) : t_law_is_load K C E' { nx := fun _ H' => Q .non H', rt := Q } (L2.start ["_law_net_here", "_law_value", "_law_arcs", "_law_one", "_law_at"] vs) H := by
  obtain ⟨⟨n, as, s, t, o⟩, v1, v2, G, e, rfl, d1, d2, i⟩ := SP.in2 h (fun _ => rfl) ["_law_net_here", "_law_value", "_law_arcs", "_law_one", "_law_at"] (by decide)
  obtain ⟨sz, so⟩ := i.pre
  have sz : as.length ≤ 1000 := sz
  refine q_set (d := arcsD as) i.S (ed_ix (n := 1) (da := netD n as) (ed_var rfl) ed_int .t rfl) fun w G1 H1 _ _ S1 => ?_
  cases o with
  | none =>
    refine q_if0 (b := true) S1 (ET.is (eb_or (b := true) (eb_not (eb_B (ed_isSeq (d := .none) (ed_var rfl)))) fun z => nomatch z) rfl) (fun _ G2 H2 _ S2 => s_out S2 ed_bl (i.rt rfl) fun d q => q) fun z => nomatch z
  | some p =>
    obtain ⟨b, l⟩ := p
    have so : l.length ≤ 2000 := so
    have hq : seqOf (sqD b (l.map PyData.int)) = some (l.map PyData.int) := seqOf_sqD b _
    have fin : ∀ d, d = PyData.bool (isLoad as (sqD b (l.map PyData.int))) → d = PyData.bool (isLoad as (vlD (some (b, l)))) := fun d q => q
    let δ : Fm := [Cell.p v1 (netD n as), Cell.p v2 (sqD b (l.map PyData.int)), .d (arcsD as), .no, .no]
    have S1 : Sd e δ G1 H1 _ := S1
    refine q_if0 (b := !decide (l.length = as.length)) S1 (ET.is (eb_or (eb_not (eb_B (ed_isSeq (ed_var rfl)))) fun _ => eb_T (ER.is (ed_neD (ed_len rfl (ed_var rfl) (sqD_seq b _)) (ed_len rfl (ed_var rfl) .t) rfl rfl) (by rw [eqv_int, List.length_map, List.length_map, decI]))) (by unfold isSeq; rw [hq]; rfl)) (fun z G2 H2 _ S2 => s_out S2 ed_bl (i.rt rfl) fun d q => fin d ?_) fun z G2 H2 _ S2 => ?_
    · rw [q]
      unfold isLoad
      split
      · rename_i l' hl'
        obtain ⟨k1, _⟩ := loadOf_some hl'
        rw [hq] at k1
        have : l'.length = l.length := by
          have := congrArg List.length (Option.some.inj k1)
          simpa using this.symm
        have z' : ¬ l.length = as.length := by simpa using z
        rw [decide_eq_false (by omega), Bool.false_and]
      · rfl
    have hlen : l.length = as.length := by simpa using z
    have S2 : Sd e δ G2 H2 _ := S2
    refine q_if0 (b := !(l.filter fun x => decide (x < 0)).isEmpty) S2 (eb_T (ER.is (ed_neNil (el_lc (xs := l) (enc := PyData.int) (p := fun x => decide (x < 0)) (f := PyData.int) (δ' := fun x => δ.set 3 (.d (.int x))) (it_seq (ed_var rfl) (sqD_seq b _)) (by simp) rfl (fun p _ => ga_name) (fun _ _ => rfl) (fun x _ => ET.is (eb_or (eb_not (eb_B (ed_isInt (ed_var rfl)))) fun _ => eb_or (eb_B (ed_isBool (ed_var rfl))) fun _ => eb_T (ed_lt (ed_var rfl) ed_int)) (by simp [isIB, isBl])) (fun x _ _ => ed_var rfl) (by omega)) (nb_ints _ id)) (by simp))) (fun z G3 H3 _ S3 => s_out S3 ed_bl (i.rt rfl) fun d q => fin d ?_) fun z G3 H3 _ S3 => ?_
    · rw [q]
      cases hb : isLoad as (sqD b (l.map PyData.int)) with
      | false => rfl
      | true =>
        exfalso
        obtain ⟨l', hl', hbo⟩ := isLoad_iff.mp hb
        obtain ⟨k1, k2⟩ := loadOf_some hl'
        rw [hq] at k1
        have e1 : l = l' := by
          have := Option.some.inj k1
          exact List.map_inj_right (fun a b h => by cases h; rfl) |>.mp this
        subst e1
        have : (l.filter fun x => decide (x < 0)) = [] := List.filter_eq_nil_iff.mpr fun x hx h => by
          have := k2 x hx
          have := of_decide_eq_true h
          omega
        rw [this] at z; cases z
    have h0 : ∀ x ∈ l, 0 ≤ x := fun x hx => by
      have z : (l.filter fun x => decide (x < 0)) = [] := by simpa using z
      have := List.filter_eq_nil_iff.mp z x hx
      simp at this
      exact this
    have hlo : loadOf (sqD b (l.map PyData.int)) = some l := loadOf_ints h0
    have S3 : Sd e δ G3 H3 _ := S3
    let p (j : Nat) : Bool := !isNone (optD (as.getD j arc0).mo) && !bear1 (as.getD j arc0, l.getD j 0)
    refine s_out (Ra := fun d => d = .bool (((List.range as.length).filter p).isEmpty)) S3 (ER.is (ed_eqNil (el_lc (xs := List.range as.length) (enc := iD) (p := p) (f := iD) (δ' := fun j => δ.set 4 (.d (iD j))) (it_range1 (ea_c (ER.is (ed_len rfl (ed_var rfl) .t) (by rw [List.length_map])) ea_nil) (by omega)) (by simp) rfl (fun p _ => ga_name) (fun _ _ => rfl) (fun j hj => ?_) (fun j _ _ => ed_var rfl) (by simp; omega)) (by rw [List.all_map, List.all_eq_true]; intro x _; rfl)) (by simp)) (i.rt rfl) fun d q => fin d ?_
    · have hj := List.mem_range.mp hj
      have ha : as[j]? = some as[j] := List.getElem?_eq_getElem hj
      have hx : l[j]? = some (l[j]'(by omega)) := List.getElem?_eq_getElem (by omega)
      generalize as[j] = a at ha
      generalize l[j]'(by omega) = x at hx
      have e2 : ED e (tOp (rIx K) (tOp (rIx K) (tVar 2) (tVar 4)) (tC (.int 2))) (δ.set 4 (.d (iD j))) (optD a.mo) := ed_arc (k := 2) (ed_var rfl) (ed_var rfl) ha rfl
      refine ET.is (eb_and (b := !bear1 (a, x)) (eb_T (ed_notN e2)) fun hn => ?_) (by show _ = p j; simp only [p]; rw [getD_some ha, getD_some hx])
      cases hm : a.mo with
      | none => rw [hm] at hn; cases hn
      | some m =>
        rw [hm] at e2
        refine eb_T (ER.is (ed_gt (ed_ix (n := j) (d := .int x) (ed_var rfl) (ed_var rfl) (sqD_seq b _) (by rw [List.getElem?_map, hx]; rfl)) e2) ?_)
        unfold bear1
        rw [hm]
        simp only
        congr 1
        rw [← decide_not, decide_eq_decide]; omega
    · rw [q]
      unfold isLoad
      rw [hlo]
      simp only
      rw [decide_eq_true hlen, Bool.true_and]
      congr 1
      rw [Bool.eq_iff_iff, List.isEmpty_iff, List.filter_eq_nil_iff, List.all_eq_true]
      constructor
      · rintro h ⟨a, x⟩ hm
        have ⟨j, hj⟩ := List.getElem?_of_mem hm
        rw [List.getElem?_zip_eq_some] at hj
        have hlt := (List.getElem?_eq_some_iff.mp hj.1).1
        have := h j (List.mem_range.mpr hlt)
        simp only [p] at this
        rw [getD_some hj.1, getD_some hj.2] at this
        unfold bear1 at this ⊢
        cases hm : a.mo with
        | none => rfl
        | some m => simp [hm, optD, isNone] at this ⊢; exact this
      · intro h j hj hp
        have hj := List.mem_range.mp hj
        have ha : as[j]? = some as[j] := List.getElem?_eq_getElem hj
        have hx : l[j]? = some (l[j]'(by omega)) := List.getElem?_eq_getElem (by omega)
        simp only [p] at hp
        rw [getD_some ha, getD_some hx] at hp
        have := h (as[j], l[j]'(by omega)) (List.mem_of_getElem? (i := j) (by rw [List.getElem?_zip_eq_some]; exact ⟨ha, hx⟩))
        rw [this] at hp
        simp at hp
end
end DL
namespace DL
open PySem L2
section
variable {e : Ent} {δ : Fm} {te : TE} {D : L2.Ends} {σ : L2.St} {G H : Hp} {R : PyData → Prop}
theorem s_retL {i : Nat} {xs : List PyData} (S : Sd e δ G H σ) (hi : δ[i]? = some (.l xs)) (nb : ∀ a, ¬ e.B a) (r : Rtn e D.rt R) (h : R (.list xs)) : tRet (tVar i) D σ H := by
  obtain ⟨G', _, S'⟩ := S.freeze hi fun a _ => nb a
  have hl := (List.getElem?_eq_some_iff.mp hi).1
  exact s_out S' (ed_var (i := i) (d := .list xs) (by rw [List.getElem?_set_self hl]; rfl)) r fun d q => by rw [q]; exact h
end
theorem seq_nodes (b : Bool) (L : List Nat) : SeqD (sqD b (L.map iD)) ((L.map fun v : Nat => (v : Int)).map PyData.int) := by
  have e1 : (L.map fun v : Nat => (v : Int)).map PyData.int = L.map iD := by rw [List.map_map]; rfl
  rw [e1]; exact sqD_seq b _
theorem mem_cast {L : List Nat} {v : Nat} : decide ((v : Int) ∈ L.map fun v : Nat => (v : Int)) = FM.memL L v := by
  unfold FM.memL
  rw [decide_eq_decide, List.mem_map]
  constructor
  · rintro ⟨x, hx, q⟩
    have : x = v := by omega
    rw [← this]; exact hx
  · intro h; exact ⟨v, h, rfl⟩
section
variable {K : PySem.W.Frag} {C : Addr} {E E' : XK} {vs : List V} {H : Hp} {Q : VK}
theorem pu_law_is_flow (h : sp_law_is_flow C vs H Q E) : t_law_is_flow K C E' { nx := fun _ H' => Q .non H', rt := Q } (L2.start ["_law_net_here", "_law_start_here", "_law_goal", "_law_value", "_law_node"] vs) H := by
  obtain ⟨⟨n, as, s, t, o⟩, v1, v2, v3, v4, G, e, rfl, d1, d2, d3, d4, i⟩ := SP.in4 h (fun _ => rfl) ["_law_net_here", "_law_start_here", "_law_goal", "_law_value", "_law_node"] (by decide)
  obtain ⟨ok, so⟩ := i.pre
  have ok : NetOk n as := ok
  have so : VlSz o := so
  have n1 := ok.n1
  let δ : Fm := [Cell.p v1 (netD n as), Cell.p v2 (iD s), Cell.p v3 (iD t), Cell.p v4 (vlD o), .no]
  refine q_if0 (b := !isLoad as (vlD o)) i.S (eb_not (eb_B (ed_call ⟨n, as, s, t, o⟩ (ea_c (ed_var rfl) (ea_c (ed_var rfl) ea_nil)) ⟨ok.sz, so⟩ rfl fun d q => q))) (fun z G1 H1 _ S1 => s_out S1 ed_bl (i.rt rfl) fun d q => ?_) fun z G1 H1 _ S1 => ?_
  · rw [q]
    show PyData.bool false = PyData.bool (isFit n as s t (vlD o))
    unfold isFit
    have : isLoad as (vlD o) = false := by simpa using z
    rw [this, Bool.false_and]
  have z : isLoad as (vlD o) = true := by simpa using z
  obtain ⟨l, hl, hb⟩ := isLoad_iff.mp z
  obtain ⟨k1, _⟩ := loadOf_some hl
  obtain ⟨b, rfl⟩ : ∃ b, o = some (b, l) := by
    cases o with
    | none => cases k1
    | some p =>
      obtain ⟨b, l'⟩ := p
      refine ⟨b, ?_⟩
      rw [show seqOf (vlD (some (b, l'))) = some (l'.map PyData.int) from seqOf_sqD b _] at k1
      have : l' = l := List.map_inj_right (fun a b h => by cases h; rfl) |>.mp (Option.some.inj k1)
      rw [this]
  have hlen := hb.len
  let p (u : Nat) : Bool := (!(decide (u = s) || decide (u = t))) && !decide (FM.sur as l u = 0)
  refine s_out (Ra := fun d => d = .bool (((List.range n).filter p).isEmpty)) S1 (ER.is (ed_eqNil (el_lc (xs := List.range n) (enc := iD) (p := p) (f := iD) (δ' := fun u => δ.set 4 (.d (iD u))) (it_range1 (ea_c (ed_ix (n := 0) (d := iD n) (da := netD n as) (ed_var rfl) ed_int .t rfl) ea_nil) (by omega)) (fun _ h => h) rfl (fun p _ => ga_name) (fun _ _ => rfl) (fun u hu => ?_) (fun u _ _ => ed_var rfl) (by simp; omega)) (by rw [List.all_map, List.all_eq_true]; intro x _; rfl)) (by simp)) (i.rt rfl) fun d q => ?_
  · refine eb_and (eb_T (ER.is (ed_notIn (ns := [(s : Int), (t : Int)]) (i := (u : Int)) (ed_var rfl) (ed_tup (ea_c (ed_var rfl) (ea_c (ed_var rfl) ea_nil)) (show 2 ≤ 1000000 by decide)) .t) ?_)) fun _ => eb_T (ER.is (ed_neD (ed_call (⟨n, as, b, l⟩, u) (ea_c (ed_var rfl) (ea_c (ed_var rfl) (ea_c (ed_var rfl) ea_nil))) ⟨ok.sz, hlen⟩ rfl fun d q => q) ed_int rfl rfl) (by rw [eqv_int]))
    have : decide ((u : Int) ∈ [(s : Int), (t : Int)]) = (decide (u = s) || decide (u = t)) := by
      rw [← Bool.decide_or, decide_eq_decide]
      simp only [List.mem_cons, List.not_mem_nil, or_false]
      omega
    rw [this]
  · rw [q]
    show _ = PyData.bool (isFit n as s t _)
    unfold isFit
    rw [z, hl, Bool.true_and]
    congr 1
    rw [Bool.eq_iff_iff, List.isEmpty_iff, List.filter_eq_nil_iff, List.all_eq_true]
    refine ⟨fun h u hu => ?_, fun h u hu hp => ?_⟩
    · have := h u hu
      simp only [p] at this
      show (decide (FM.sur as l u = 0) || (decide (u = s) || decide (u = t))) = true
      cases h1 : (decide (u = s) || decide (u = t)) with
      | true => simp
      | false =>
        rw [h1] at this
        simp at this
        simp [this]
    · have := h u hu
      have this : (decide (FM.sur as l u = 0) || (decide (u = s) || decide (u = t))) = true := this
      simp only [p, Bool.and_eq_true, Bool.not_eq_true'] at hp
      rw [hp.1, hp.2] at this
      cases this
theorem pu_law_worth (h : sp_law_worth C vs H Q E) : t_law_worth K C E' { nx := fun _ H' => Q .non H', rt := Q } (L2.start ["_law_net_here", "_law_lot", "_law_some", "_law_arc"] vs) H := by
  obtain ⟨⟨n, as, b, L⟩, v1, v2, G, e, rfl, d1, d2, i⟩ := SP.in2 h (fun _ => rfl) ["_law_net_here", "_law_lot", "_law_some", "_law_arc"] (by decide)
  have sz : as.length ≤ 1000 := i.pre
  let δ : Fm := [Cell.p v1 (netD n as), Cell.p v2 (sqD b (L.map iD)), .no, .no]
  let p (a : FM.Arc) : Bool := FM.memL L a.tl && !FM.memL L a.hd
  refine q_set (d := .list ((as.filter p).map fun a => optD a.mo)) i.S (el_ed (el_lc (xs := as) (enc := arcD) (p := p) (f := fun a => optD a.mo) (δ' := fun a => δ.set 3 (.d (arcD a))) (it_seq (d := arcsD as) (ed_ix (n := 1) (da := netD n as) (ed_var rfl) ed_int .t rfl) .t) (by simp) rfl (fun p _ => ga_name) (fun _ _ => rfl) (fun a _ => eb_and (eb_T (ER.is (ed_in (i := (a.tl : Int)) (ed_ix (n := 0) (d := iD a.tl) (ed_var rfl) ed_int .t rfl) (ed_var rfl) (seq_nodes b L)) (by rw [mem_cast]))) fun _ => eb_T (ER.is (ed_notIn (i := (a.hd : Int)) (ed_ix (n := 1) (d := iD a.hd) (ed_var rfl) ed_int .t rfl) (ed_var rfl) (seq_nodes b L)) (by rw [mem_cast]))) (fun a _ _ => ed_ix (n := 2) (ed_var rfl) ed_int .t rfl) (by omega))) fun w G1 H1 _ _ S1 => ?_
  let os := (as.filter p).map (·.mo)
  have eo : ((as.filter p).map fun a => optD a.mo) = os.map optD := by rw [List.map_map]; rfl
  have cw := cutw_os (S := FM.memL L) as
  have cw : FM.cutw as (FM.memL L) = if none ∈ os then none else some (sumO os) := cw
  refine s_out (Ra := fun d => d = optD (FM.cutw as (FM.memL L))) S1 (ed_if (b := decide (none ∈ os)) (eb_T (ed_noneIn (ed_var (by rw [← eo]; rfl)))) (fun z => ?_) fun z => ?_) (i.rt rfl) fun d q => q
  · rw [cw, if_pos (of_decide_eq_true z)]
    exact ed_non
  · have z := of_decide_eq_false z
    rw [cw, if_neg z]
    obtain ⟨o1, o2⟩ := opts_ints z
    exact ER.is (ed_sum (ns := os.map fun o => o.getD 0) (ed_var (by rw [← o1, ← eo]; rfl))) (by rw [o2]; rfl)
theorem lots_len (s : Nat) (ends : List Nat) : ∀ k, (FM.lots s ends k).length ≤ 2 ^ k
  | 0 => by simp [FM.lots]
  | k + 1 => by
    have ih := lots_len s ends k
    unfold FM.lots
    rw [List.length_append, Nat.pow_succ]
    have h1 : (if k = s then [] else FM.lots s ends k).length ≤ 2 ^ k := by
      split
      · simp
      · exact ih
    have h2 : (if k ∈ ends then [] else (FM.lots s ends k).map (· ++ [k])).length ≤ 2 ^ k := by
      split
      · simp
      · rw [List.length_map]; exact ih
    omega
def nlD (L : List Nat) : PyData := .list (L.map iD)
theorem pu_law_lots (h : sp_law_lots C vs H Q E) : t_law_lots K C E' { nx := fun _ H' => Q .non H', rt := Q } (L2.start ["_law_net_here", "_law_start_here", "_law_ends", "_law_found", "_law_node", "_law_with_it", "_law_lot"] vs) H := by
  obtain ⟨⟨n, as, s, t⟩, v1, v2, v3, G, e, rfl, d1, d2, d3, i⟩ := SP.in3 h (fun _ => rfl) ["_law_net_here", "_law_start_here", "_law_ends", "_law_found", "_law_node", "_law_with_it", "_law_lot"] (by decide)
  obtain ⟨hn, sz⟩ := i.pre
  have hn : n ≤ 10 := hn
  have sz : as.length ≤ 1000 := sz
  let X (j : Nat) : List PyData := (FM.lots s [t] j).map nlD
  let F (j : Nat) (c4 c5 : Cell) : Fm := [Cell.p v1 (netD n as), Cell.p v2 (iD s), Cell.p v3 (.list [iD t]), .d (.list (X j)), c4, c5, .no]
  have xz : ∀ j, j ≤ 10 → (FM.lots s [t] j).length ≤ 1024 := fun j hj => Nat.le_trans (lots_len s [t] j) (Nat.pow_le_pow_right (by decide) hj)
  have lz : ∀ j (L : List Nat), L ∈ FM.lots s [t] j → L.length ≤ j := fun j L hL => by
    obtain ⟨S, _, _, rfl⟩ := FM.mem_lots.mp hL
    unfold FM.asc
    have := List.length_filter_le S (List.range j)
    simpa using this
  refine q_set (d := .list (X 0)) i.S (el_ed (el_lst (ea_c (el_ed (el_lst ea_nil fun _ q => by rw [q]; decide)) ea_nil) fun _ q => by rw [q]; exact (show 1 ≤ 1000000 by decide))) fun w G1 H1 _ _ S1 => ?_
  have S1 : Sd e (F 0 .no .no) G1 H1 _ := S1
  refine q_forD (items := natsD n) S1 (it_range1 (ea_c (ed_ix (n := 0) (d := iD n) (da := netD n as) (ed_var rfl) ed_int .t rfl) ea_nil) (by omega)) (fun j δ => ∃ c4 c5, δ = F j c4 c5) ⟨.no, .no, rfl⟩ (fun e1 sb j d δ1 σ1 G2 H2 hd hP S2 => ?_) fun δn σn Gn Hn hP _ Sn => ?_
  · obtain ⟨c4, c5, rfl⟩ := hP
    obtain ⟨hj, rfl⟩ := natsD_at hd
    have hx := xz j (by omega)
    refine ⟨_, _, ga_name, fun σ2 G3 H3 S3 => ?_⟩
    have S3 : Sd e1 (F j (.d (iD j)) c5) G3 H3 σ2 := S3
    have ein : decide ((j : Int) ∈ [(t : Int)]) = decide (j ∈ [t]) := by
      rw [decide_eq_decide]
      simp only [List.mem_singleton]
      omega
    refine q_set (d := .list (if j ∈ [t] then [] else (FM.lots s [t] j).map fun L => nlD (L ++ [j]))) S3 (ed_if (b := !decide (j ∈ [t])) (eb_T (ER.is (ed_notIn (ns := [(t : Int)]) (i := (j : Int)) (ed_var rfl) (ed_var rfl) .l) (by rw [ein]))) (fun z => ?_) fun z => ?_) fun w2 G4 H4 _ _ S4 => ?_
    · have z : ¬ j ∈ [t] := by simpa using z
      rw [if_neg z]
      refine el_ed (el_map (xs := FM.lots s [t] j) (enc := nlD) (f := fun L => nlD (L ++ [j])) (δ' := fun L => (F j (.d (iD j)) c5).set 6 (.d (nlD L))) (it_seq (ed_var rfl) .l) (by simp) rfl (fun p _ => ga_name) (fun _ _ => rfl) (fun L hL => ER.is (el_ed (el_catD (as := L.map iD) (ed_var rfl) (el_ed (el_lst (ea_c (ed_var rfl) ea_nil) fun _ q => by rw [q]; exact (show 1 ≤ 1000000 by decide))) (by have := lz j L hL; simp; omega))) ?_) (by omega))
      unfold nlD
      rw [List.map_append]; rfl
    · have z : j ∈ [t] := by simpa using z
      rw [if_pos z]
      exact el_ed (el_lst ea_nil fun _ q => by rw [q]; decide)
    · refine s_asg (R := fun d => d = .list (X (j + 1))) S4 (ER.is (el_ed (el_catD (as := if j = s then [] else X j) (bs := if j ∈ [t] then [] else (FM.lots s [t] j).map fun L => nlD (L ++ [j])) (ed_if (b := !decide (j = s)) (eb_T (ER.is (ed_neD (ed_var rfl) (ed_var rfl) rfl rfl) (by rw [eqv_iD]))) (fun z => ?_) fun z => ?_) (ed_var rfl) ?_)) ?_) fun d w3 G5 H5 q _ _ S5 => ?_
      · have z : ¬ j = s := by simpa using z
        rw [if_neg z]
        exact ed_var rfl
      · have z : j = s := by simpa using z
        rw [if_pos z]
        exact el_ed (el_lst ea_nil fun _ q => by rw [q]; decide)
      · have a1 : (if j = s then [] else X j).length ≤ 1024 := by split <;> simp [X]; exact hx
        have a2 : (if j ∈ [t] then [] else (FM.lots s [t] j).map fun L => nlD (L ++ [j])).length ≤ 1024 := by split <;> simp; exact hx
        omega
      · show PyData.list _ = PyData.list ((FM.lots s [t] (j + 1)).map nlD)
        congr 1
        show _ = ((if j = s then [] else FM.lots s [t] j) ++ (if j ∈ [t] then [] else (FM.lots s [t] j).map (· ++ [j]))).map nlD
        rw [List.map_append]
        congr 1
        · by_cases z : j = s
          · rw [if_pos z, if_pos z]; rfl
          · rw [if_neg z, if_neg z]
        · by_cases z : j ∈ [t]
          · rw [if_pos z, if_pos z]; rfl
          · rw [if_neg z, if_neg z, List.map_map]; rfl
      · subst q
        exact ⟨_, G5, ⟨_, _, rfl⟩, S5⟩
  · obtain ⟨c4, c5, rfl⟩ := hP
    rw [natsD_len] at Sn
    have hx := xz n hn
    refine s_out (Ra := fun d => d = .list ((FM.law_lots n s [t] as).map lotD)) Sn (ER.is (el_ed (el_map (xs := FM.lots s [t] n) (enc := nlD) (f := fun L => lotD (FM.cutw as (FM.memL L), L)) (δ' := fun L => (F n c4 c5).set 6 (.d (nlD L))) (it_seq (ed_var rfl) .l) (by simp) rfl (fun p _ => ga_name) (fun _ _ => rfl) (fun L _ => ed_tup (ea_c (ed_call ⟨n, as, true, L⟩ (ea_c (ed_var rfl) (ea_c (ed_var rfl) ea_nil)) sz rfl fun d q => q) (ea_c (ed_var rfl) ea_nil)) (show 2 ≤ 1000000 by decide)) (by omega))) ?_) (i.rt rfl) fun d q => q
    unfold FM.law_lots
    rw [List.map_map]; rfl
theorem pu_law_best (h : sp_law_best C vs H Q E) : t_law_best K C E' { nx := fun _ H' => Q .non H', rt := Q } (L2.start ["_law_lots_here", "_law_known", "_law_one"] vs) H := by
  obtain ⟨ws, v1, G, e, rfl, d1, i⟩ := SP.in1 h (fun _ => rfl) ["_law_lots_here", "_law_known", "_law_one"] (by decide)
  have sz : ws.length ≤ 100000 := i.pre
  let δ : Fm := [Cell.p v1 (.list (ws.map lotD)), .no, .no]
  let ks : List Int := (ws.map (·.1)).filterMap id
  have ek : ((ws.filter fun w => !isNone (optD w.1)).map fun w => optD w.1) = ks.map PyData.int := by
    have := opt_known (ws.map (·.1))
    rw [List.filter_map, List.map_map] at this
    exact this
  refine q_set (d := .list (ks.map PyData.int)) i.S (ER.is (el_ed (el_lc (xs := ws) (enc := lotD) (p := fun w => !isNone (optD w.1)) (f := fun w => optD w.1) (δ' := fun w => δ.set 2 (.d (lotD w))) (it_seq (ed_var rfl) .l) (by simp) rfl (fun p _ => ga_name) (fun _ _ => rfl) (fun w _ => eb_T (ed_notN (ed_ix (n := 0) (ed_var rfl) ed_int .t rfl))) (fun w _ _ => ed_ix (n := 0) (ed_var rfl) ed_int .t rfl) (by omega))) (by rw [ek])) fun w G1 H1 _ _ S1 => ?_
  have mem : ∀ {x : Int}, x ∈ ks ↔ some x ∈ ws.map (·.1) := fun {x} => by
    show x ∈ (ws.map (·.1)).filterMap id ↔ _
    rw [List.mem_filterMap]
    constructor
    · rintro ⟨o, ho, q⟩
      have q : o = some x := q
      rw [q] at ho; exact ho
    · intro h; exact ⟨_, h, rfl⟩
  refine s_out (Ra := fun d => ∃ o, FM.IsBest (ws.map (·.1)) o ∧ d = optD o) S1 (ed_if (b := !ks.isEmpty) (eb_T (ER.is (ed_neNilD (ed_var rfl) (shp_nbs (nb_ints ks id))) (by simp))) (fun z => ?_) fun z => ER.to ed_non ⟨none, ?_, rfl⟩) (i.rt rfl) fun d q => q
  · have hk : 0 < ks.length := by
      cases hks : ks with
      | nil => rw [hks] at z; cases z
      | cons x r => simp
    exact ER.mono (er_min (ed_var rfl) hk) fun d ⟨m, q1, q2, q3⟩ => ⟨some m, ⟨mem.mp q2, fun x hx => q3 x (mem.mpr hx)⟩, q1⟩
  · have hk : ks = [] := by simpa using z
    intro w hw
    cases w with
    | none => rfl
    | some x =>
      have := mem.mpr hw
      rw [hk] at this; cases this
theorem asc_pw (n : Nat) (S : Nat → Bool) : (FM.asc n S).Pairwise (· < ·) := by
  unfold FM.asc
  exact List.Pairwise.sublist List.filter_sublist List.pairwise_lt_range
theorem asc_len (n : Nat) (S : Nat → Bool) : (FM.asc n S).length ≤ n := by
  unfold FM.asc
  have := List.length_filter_le S (List.range n)
  simpa using this
theorem pu_law_is_best (h : sp_law_is_best C vs H Q E) : t_law_is_best K C E' { nx := fun _ H' => Q .non H', rt := Q } (L2.start ["_law_net_here", "_law_start_here", "_law_goal", "_law_best_here", "_law_told"] vs) H := by
  obtain ⟨⟨n, as, s, t, l⟩, v1, v2, v3, v4, v5, G, e, rfl, d1, d2, d3, d4, d5, i⟩ := SP.in5 h (fun _ => rfl) ["_law_net_here", "_law_start_here", "_law_goal", "_law_best_here", "_law_told"] (by decide)
  obtain ⟨ok, B⟩ := i.pre
  have ok : NetOk n as := ok
  have B : FM.Best n as s t l := B
  have n1 := ok.n1
  have osz := ok.sz
  have hlen := B.flow.1.len
  have nt := netOf_netD ok
  have hlo : loadOf (intsT l) = some l := loadOf_ints (b := false) (of_borne B.flow.1).1
  have fit : isFit n as s t (intsT l) = true := isFit_iff.mpr ⟨l, hlo, B.flow⟩
  have bp : badPair (netD n as) (iD s) (iD t) = none := badPair_of nt (nd_of B.sn) (nd_of B.tn) (Ne.symm B.ne)
  have nr : ¬ FM.Reach as l s t := fun r => by
    have := B.r_t
    rw [FM.rset_iff.mpr r] at this; cases this
  let δ : Fm := [Cell.p v1 (netD n as), Cell.p v2 (iD s), Cell.p v3 (iD t), Cell.p v4 (.int (FM.sur as l t)), Cell.p v5 (intsT l)]
  have er : ∀ {e' : Ent}, ED e' (tCall (sp_reached C) [] E0 (tCons (tVar 0) (tCons (tVar 4) (tCons (tVar 1) tNil)))) δ (nodesT (FM.asc n (FM.rset as l s))) := fun {e'} => ed_call ⟨netD n as, n, as, false, l, s, t⟩ (ea_c (ed_var rfl) (ea_c (ed_var rfl) (ea_c (ed_var rfl) ea_nil))) ⟨ok.sz', nt, B.sn, B.flow.1⟩ rfl fun d q => q
  refine q_if0 (b := false) i.S (ET.is (eb_or (eb_not (eb_B (ed_isTuple (ed_var rfl)))) fun _ => eb_not (a := true) (eb_B (ed_call ⟨n, as, s, t, some (false, l)⟩ (ea_c (ed_var rfl) (ea_c (ed_var rfl) (ea_c (ed_var rfl) (ea_c (ed_var rfl) ea_nil)))) ⟨ok, by show l.length ≤ 2000; omega⟩ rfl fun d q => by rw [q]; exact congrArg PyData.bool fit))) rfl) (fun z => nomatch z) fun _ G1 H1 _ S1 => ?_
  refine q_if0 (b := false) S1 (ET.is (eb_or (eb_not (a := true) (eb_B (ed_call ⟨netD n as, iD s, iD t, intsT l⟩ (ea_c (ed_var rfl) (ea_c (ed_var rfl) (ea_c (ed_var rfl) (ea_c (ed_var rfl) ea_nil)))) ⟨ok.sz', VSz.ints (b := false) (by omega)⟩ bp fun d ⟨n', as', a', b', k1, k2, k3, k4⟩ => ?_))) fun _ => eb_T (ER.is (ed_neD (da := .int (FM.sur as l t)) (ed_call (⟨n, as, false, l⟩, t) (ea_c (ed_var rfl) (ea_c (ed_var rfl) (ea_c (ed_var rfl) ea_nil))) ⟨ok.sz, hlen⟩ rfl fun d q => q) (ed_var rfl) rfl rfl) (by rw [eqv_int, decide_eq_true rfl]; rfl))) rfl) (fun z => nomatch z) fun _ G2 H2 _ S2 => ?_
  · have q1 := k1.symm.trans nt
    cases q1
    have q2 := k2.symm.trans (nd_of B.sn)
    cases q2
    have q3 := k3.symm.trans (nd_of B.tn)
    cases q3
    rw [k4]; exact congrArg PyData.bool fit
  refine q_if0 (b := false) S2 (ET.is (eb_or (a := false) (eb_T (er_op (Ra := fun d => isNone d = true) (Rb := fun d => d = .none) (R := fun d => d = .bool false) (ed_call (⟨netD n as, n, as, false, l, s, t⟩, true) (ea_c (ed_var rfl) (ea_c (ed_var rfl) (ea_c (ed_var rfl) (ea_c (el_ed (el_lst (ea_c (ed_var rfl) ea_nil) fun _ q => by rw [q]; exact (show 1 ≤ 1000000 by decide))) ea_nil)))) ⟨ok.sz', nt, B.sn, B.tn, B.ne, B.flow.1⟩ rfl fun d q => q.mpr nr) ed_non fun da db h1 h2 => ?_)) fun _ => eb_T (ER.is (ed_in (ns := (FM.asc n (FM.rset as l s)).map fun v : Nat => (v : Int)) (i := (t : Int)) (ed_var rfl) er (seq_nodes false _)) (by rw [mem_cast]))) ?_) (fun z => nomatch z) fun _ G3 H3 _ S3 => ?_
  · subst h2
    exact fun G H x y Q _ hx hy k => by
      cases hy
      refine ⟨rfl, k _ _ rfl ?_⟩
      rw [isNone_v hx, h1]; exact .bl _
  · rw [Bool.false_or]
    unfold FM.memL
    exact decide_eq_false fun h => by
      have := (FM.mem_asc.mp h).2
      rw [B.r_t] at this; cases this
  refine s_out (Ra := fun d => d = .bool true) S3 (ER.is (ed_eqD (da := optD (some (FM.sur as l t))) (ed_call ⟨netD n as, n, as, FM.asc n (FM.rset as l s)⟩ (ea_c (ed_var rfl) (ea_c er ea_nil)) ⟨ok.sz', nt, List.length_pos_of_mem (FM.mem_asc.mpr ⟨B.sn, B.r_s⟩), by show (FM.asc n _).length ≤ 2000; have := asc_len n (FM.rset as l s); omega, asc_pw n _, fun x hx => (FM.mem_asc.mp hx).1⟩ rfl fun d q => ?_) (ed_var rfl) rfl rfl) ?_) (i.rt rfl) fun d q => q
  · rw [q]
    show optD (FM.cutw as (FM.memL (FM.asc n (FM.rset as l s)))) = _
    rw [FM.cutw_asc ok.wf, B.cut]
  · show PyData.bool (PyData.eqv (.int _) (.int _)) = _
    rw [eqv_int, decide_eq_true rfl]
end
end DL
namespace DL
open PySem L2
section
variable {e : Ent} {δ : Fm} {te ta tb : TE} {D : L2.Ends} {σ : L2.St} {G H : Hp} {t1 t2 : TS} {K : PySem.W.Frag} {C : Addr} {E : XK} {d : PyData}
/-! ### a list that was lent -/
theorem ed_ixA {a : Addr} {xs : List PyData} {i n : Nat} (h : δ[i]? = some (.la a xs)) (hb : ED e tb δ (iD n)) (hx : xs[n]? = some d) : ED e (tOp (rIx K) (tVar i) tb) δ d := fun σ G H Q S k => by
  obtain ⟨h1, ys, h2, h3⟩ := S.cells i _ h
  refine ⟨_, h1, hb σ G H _ S fun d' v G1 H1 r g q => ?_⟩
  subst r; cases q
  obtain ⟨_, ys', k2, k3⟩ := g.s.cells i _ h
  obtain ⟨v, hv, dv⟩ := k3.get hx
  exact .inl ⟨a, ys', n, v, rfl, rfl, SqL.of k2, atI_nat hv, k d v G1 H1 rfl g dv⟩
theorem s_augA {a : Addr} {xs : List PyData} {i n : Nat} {x y : Int} {f : Int → Int → Int} (S : Sd e δ G H σ) (hi : δ[i]? = some (.la a xs)) (hb : ED e tb δ (iD n)) (hx : xs[n]? = some (.int x)) (h : ED e te δ (.int y)) (k : ∀ G' H', Ex G G' → Sd e (δ.set i (.la a (xs.set n (.int (f x y))))) G' H' σ → D.nx σ H') :
    tAugS (tVar i) tb te (rIxL K) (ipI f) rSetL D σ H := by
  obtain ⟨h1, ys, h2, h3⟩ := S.cells i _ hi
  have hn : n < xs.length := (List.getElem?_eq_some_iff.mp hx).1
  refine ⟨_, h1, hb σ G H _ S fun d' v' G1 H1 r' g q' => ?_⟩
  subst r'; cases q'
  obtain ⟨_, ys1, k2, k3⟩ := g.s.cells i _ hi
  obtain ⟨v, hv, dv⟩ := k3.get hx
  cases dv
  refine ⟨a, ys1, n, _, rfl, rfl, SqL.of k2, atI_nat hv, h σ G1 H1 _ g.s fun d2 v2 G2 H2 r2 g2 q2 => ?_⟩
  subst r2; cases q2
  obtain ⟨_, ys2, l2, l3⟩ := g2.s.cells i _ hi
  refine ⟨x, y, rfl, rfl, a, ys2, n, n, rfl, rfl, l2, ?_, k G2 _ (g.g.tr g2.g) (g2.s.mut hi h1 (fun _ w => w) ⟨h1, _, upd_same, DgAll.set (.int _) l3 n⟩)⟩
  unfold ixN
  rw [if_pos (by omega), if_pos (by rw [l3.len]; omega)]; rfl
/-- a value and a new list by way of a pair -/
theorem q_tupL {i j m : Nat} (S : Sd e δ G H σ) (hd : (δ[m]?).bind cellD = some d) (hij : i ≠ j) (k : ∀ σ' H', Sd e ((δ.set i (.d d)).set j (.l [])) G H' σ' → t2 D σ' H') : tSeq (tAsg (tTup (tCons (tVar m) (tCons (tLst tNil) tNil))) (gTup K 2 (gCons (gName i) (gCons (gName j) gNil)))) t2 D σ H := by
  obtain ⟨v, h1, h2⟩ := S.var hd
  refine ⟨v, h1, lenOk (show 0 ≤ 1000000 by decide), fun p hp => ⟨lenOk (show 2 ≤ 1000000 by decide), fun q hq => ?_⟩⟩
  have g1 := S.go (Ext.allocH (o := .lst []) S.sub hp)
  have n1 := Nob.new (o := .lst []) S hp
  have g2 := g1.s.go (Ext.allocH (o := .tup [v, .ref p]) g1.s.sub hq)
  have S1 := g2.s.setD (i := i) h2
  have n2 := n1.go g2
  have n2' : Nob e (δ.set i (.d d)) (σ.set i (some v)) G _ p (.lst []) := ⟨n2.at_, n2.eh, n2.gn, fun a c hc ow => by
    by_cases z : i = a
    · subst z
      have hl : i < δ.length := by simpa using (List.getElem?_eq_some_iff.mp hc).1
      rw [List.getElem?_set_self hl] at hc
      cases hc; exact ow
    · rw [List.getElem?_set_ne z] at hc ow
      exact n2.no a c hc ow⟩
  exact ⟨q, [v, .ref p], rfl, SqT.of upd_same, rfl, v, [.ref p], rfl, .ref p, [], rfl, rfl, k _ _ (S1.setL (i := j) n2' .nil)⟩
/-- a path gone over an owned list -/
theorem Sd.goG {i j : Nat} {bx la : Addr} {xs xs' : List PyData} {ys' : List V} {G' H' : Hp} (S : Sd e δ G H σ) (hi : δ[i]? = some (.b bx)) (hj : δ[j]? = some (.l xs)) (hla : σ[j]? = some (some (.ref la))) (x : Exg bx la G H G' H') (h' : H' la = some (.lst ys')) (q : DgAll G' ys' xs') : Sd e (δ.set j (.l xs')) G' H' σ := by
  obtain ⟨b1, ⟨bi, bj, b2⟩, b3, b4⟩ := S.box hi
  obtain ⟨a', ys, l1, l2, l3⟩ := S.cells j _ hj
  rw [hla] at l1; cases l1
  obtain ⟨l4, l5⟩ := S.own j _ la hj hla
  have hl : j < δ.length := (List.getElem?_eq_some_iff.mp hj).1
  have ij : i ≠ j := fun z => by subst z; rw [hi] at hj; cases hj
  have at_ : ∀ {k : Nat} {c : Cell}, (δ.set j (.l xs'))[k]? = some c → (k = j ∧ c = .l xs') ∨ (k ≠ j ∧ δ[k]? = some c) := fun {k c} h => by
    by_cases z : k = j
    · subst z; rw [List.getElem?_set_self hl] at h; exact .inl ⟨rfl, (Option.some.inj h).symm⟩
    · rw [List.getElem?_set_ne (Ne.symm z)] at h; exact .inr ⟨z, h⟩
  have gn : ∀ a, H a ≠ none → G a = none → G' a = none := fun a ha hg => by
    cases z : G' a with
    | none => rfl
    | some o =>
      exfalso
      rcases x.n a (by rw [z]; exact Option.some_ne_none _) with y | y
      · exact y hg
      · exact ha y
  have old : ∀ {a : Addr}, (e.B a ∨ e.H a = none) → ∀ o, e.H a = some o → ¬ e.B a → False := fun {a} h o ho nb => by
    rcases h with z | z
    · exact nb z
    · rw [z] at ho; cases ho
  refine ⟨x.s, S.grow.tr x.g, fun a o ha nb => x.h a o (fun z => by subst z; exact old b4 o ha nb) (fun z => by subst z; exact old l4 o ha nb) (S.old a o ha nb), fun a ha => ?_, fun a hb z => ?_, by simp [S.len], fun k c hc => ?_, fun k c a hc w => ?_, fun k m c1 c2 a h1 h2 v1 v2 => ?_⟩
  · rcases x.n a ha with z | z
    · exact S.new a z
    · exact .inr (S.eh z)
  · by_cases z1 : a = bx
    · subst z1; obtain ⟨u, v, h⟩ := x.b; rw [h] at z; cases z
    · by_cases z2 : a = la
      · subst z2; rw [h'] at z; cases z
      · cases hh : H a with
        | none => exact S.bs a hb hh
        | some o => rw [x.h a o z1 z2 hh] at z; cases z
  · rcases at_ hc with ⟨rfl, rfl⟩ | ⟨z, hc'⟩
    · exact ⟨la, ys', hla, h', q⟩
    · by_cases zi : k = i
      · subst zi; rw [hi] at hc'; cases hc'
        exact ⟨b1, x.b⟩
      · exact (S.cells k c hc').up x.g fun a w u hu => x.h a u (fun y => by subst y; exact zi (S.apart k i c _ a hc' hi w b1)) (fun y => by subst y; exact z (S.apart k j c _ a hc' hj w hla)) hu
  · rcases at_ hc with ⟨rfl, rfl⟩ | ⟨z, hc'⟩
    · have w : σ[k]? = some (some (.ref a)) := w
      rw [hla] at w; cases w
      exact ⟨l4, gn la (by rw [l2]; exact Option.some_ne_none _) l5⟩
    · obtain ⟨w1, w2⟩ := S.own k c a hc' w
      obtain ⟨u, hu⟩ := (S.cells k c hc').there w
      exact ⟨w1, gn a (by rw [hu]; exact Option.some_ne_none _) w2⟩
  · rcases at_ h1 with ⟨z1, e1⟩ | ⟨z1, h1'⟩ <;> rcases at_ h2 with ⟨z2, e2⟩ | ⟨z2, h2'⟩
    · rw [z1, z2]
    · subst z1; rw [e1] at v1; exact S.apart k m (.l xs) c2 a hj h2' v1 v2
    · subst z2; rw [e2] at v2; exact S.apart k m c1 (.l xs) a h1' hj v1 v2
    · exact S.apart k m c1 c2 a h1' h2' v1 v2
theorem st_gone {j n s t u v iu iv : Nat} {bx : Addr} {as : List FM.Arc} {l : List Int} (S : Sd e δ G H σ) (h0 : δ[0]? = some (.b bx)) (h1 : (δ[1]?).bind cellD = some (netD n as)) (hj : δ[j]? = some (.l (l.map PyData.int))) (hu : (δ[iu]?).bind cellD = some (iD u)) (hv : (δ[iv]?).bind cellD = some (iD v)) (ok : NetOk n as) (lu : u < n) (lv : v < n)
    (f : FM.Flow n as s t l) (he : u = v ∨ ((u = s ∨ u = t) ∧ (v = s ∨ v = t))) (k : ∀ l' G' H', FM.Flow n as s t l' → Ex G G' → Sd e (δ.set j (.l (l'.map PyData.int))) G' H' σ → D.nx σ H') :
    tDrop (tCall (sp_law_gone C) [] E (tCons (tVar 0) (tCons (tVar 1) (tCons (tVar j) (tCons (tVar iu) (tCons (tVar iv) tNil)))))) D σ H := by
  obtain ⟨b1, ⟨x, y, b2⟩, b3, b4⟩ := S.box h0
  obtain ⟨w1, a1, a2⟩ := S.var h1
  obtain ⟨la, ys, l1, l2, l3⟩ := S.cells j _ hj
  obtain ⟨w3, c1, c2⟩ := S.var hu
  obtain ⟨w4, d1, d2⟩ := S.var hv
  have e1 := l3.ints
  subst e1
  obtain ⟨_, l5⟩ := S.own j _ la hj l1
  refine ⟨_, b1, _, a1, _, l1, _, c1, _, d1, G, ⟨n, as, s, t, l, u, v⟩, bx, la, w1, w3, w4, x, y, rfl, S.sub, b3, l5, fun z => ?_, b2, l2, a2, c2, d2, ok, lu, lv, f, he, fun G' H' l' f' xg hl' => k l' G' H' f' xg.g (S.goG h0 hj l1 xg hl' (DgAll.ofInts l'))⟩
  subst z
  have : (0 : Nat) = j := S.apart 0 j _ _ bx h0 hj b1 l1
  subst this
  rw [h0] at hj; cases hj
theorem s_retLB {i : Nat} {bx : Addr} {xs : List PyData} {R : PyData → Prop} (S : Sd e δ G H σ) (h0 : δ[0]? = some (.b bx)) (hi : δ[i]? = some (.l xs)) (ne : i ≠ 0) (eB : ∀ a, e.B a → a = bx) (r : RtnB e bx D.rt R) (h : R (.list xs)) : tRet (tVar i) D σ H := by
  obtain ⟨G', _, S'⟩ := S.freeze hi fun a ha => NotB.of eB h0 hi ne G H σ S a ha
  have hl := (List.getElem?_eq_some_iff.mp hi).1
  exact s_outB S' (by rw [List.getElem?_set_ne ne]; exact h0) (ed_var (i := i) (d := .list xs) (by rw [List.getElem?_set_self hl]; rfl)) r fun d q => by rw [q]; exact h
end
section
variable {K : PySem.W.Frag} {C : Addr} {E E' : XK} {vs : List V} {H : Hp} {Q : VK}
theorem pu_law_flow (h : sp_law_flow C vs H Q E) : t_law_flow K C E' { nx := fun _ H' => Q .non H', rt := Q } (L2.start ["_law_box_here", "_law_net_here", "_law_start_here", "_law_goal", "_law_load", "_law_turned", "_law_turn", "_law_node", "_law_arc"] vs) H := by
  obtain ⟨⟨n, as, s, t⟩, bx, v1, v2, v3, G, e, rfl, d1, d2, d3, i⟩ := BP.in3 h (fun _ => rfl) ["_law_box_here", "_law_net_here", "_law_start_here", "_law_goal", "_law_load", "_law_turned", "_law_turn", "_law_node", "_law_arc"] (by decide)
  obtain ⟨ok, hs, ht⟩ := i.pre
  have ok : NetOk n as := ok
  have hs : s < n := hs
  have ht : t < n := ht
  have osz := ok.sz
  have n0 := ok.n0
  have n1 := ok.n1
  let F (l : List Int) (c5 c6 c7 : Cell) : Fm := [.b bx, Cell.p v1 (netD n as), Cell.p v2 (iD s), Cell.p v3 (iD t), .l (l.map PyData.int), c5, c6, c7, .no]
  let δ : Fm := [.b bx, Cell.p v1 (netD n as), Cell.p v2 (iD s), Cell.p v3 (iD t), .no, .no, .no, .no, .no]
  refine q_asgL i.S (el_map (xs := as) (enc := arcD) (f := fun _ => .int 0) (δ' := fun a => δ.set 8 (.d (arcD a))) (it_seq (d := arcsD as) (ed_ix (n := 1) (da := netD n as) (ed_var rfl) ed_int .t rfl) .t) (fun _ h => h) rfl (fun p _ => ga_name) (fun _ _ => rfl) (fun a _ => ed_int) (by omega)) fun xs p G1 H1 q _ _ S1 => ?_
  have e0 : as.map (fun _ => PyData.int 0) = (FM.zeros as.length).map PyData.int := by
    unfold FM.zeros
    rw [List.map_replicate, List.map_const']
  rw [q, e0] at S1
  have S1 : Sd e (F (FM.zeros as.length) .no .no .no) G1 H1 _ := S1
  have tk : ∀ {e' : Ent} {δ' : Fm} (m : Nat), 0 < m → m ≤ 100 → δ'[0]? = some (.b bx) → ER e' (tCall (sp_law_take C) [] E0 (tCons (tVar 0) (tCons (tC (.int (m : Int))) tNil))) δ' fun d => ∃ k, k < m ∧ d = iD k := fun m h1 h2 h0 => ed_callB h0 m (ea_c ed_int ea_nil) ⟨h1, by omega⟩ fun d q => q
  have z0 : ∀ {e' : Ent} {δ' : Fm} (m : Nat), 0 < m → m ≤ 100 → δ'[0]? = some (.b bx) → ER e' (tOp (rEqD K) (tCall (sp_law_take C) [] E0 (tCons (tVar 0) (tCons (tC (.int (m : Int))) tNil))) (tC (.int 0))) δ' fun d => ∃ b, d = .bool b ∧ True := fun m h1 h2 h0 => er_op (tk m h1 h2 h0) ed_int fun da db ⟨k, _, q1⟩ q2 => by
    subst q1 q2
    exact fun G H x y Q s hx hy kk => ov_eqD rfl rfl G H x y Q s hx hy fun d v q => kk d v ⟨_, q, trivial⟩
  refine q_asg S1 (z0 6 (by decide) (by decide) rfl) fun d w1 G2 H2 ⟨b, q, _⟩ _ _ S2 => ?_
  subst q
  have S2 : Sd e (F (FM.zeros as.length) (.d (.bool b)) .no .no) G2 H2 _ := S2
  refine seq (s_for (Ri := fun items => ∃ k, k < 6 ∧ items = natsD k) S2 ?_ fun items ⟨k, hk, q⟩ => ⟨fun j δ => ∃ l c6 c7, δ = F l (.d (.bool b)) c6 c7 ∧ FM.Flow n as s t l, ⟨_, .no, .no, rfl, FM.zero_flow ok.wf⟩, ?_, ?_⟩)
  · intro σ G H R S kk
    refine tk 6 (by decide) (by decide) rfl σ G H _ S fun d v G1 H1 ⟨k, hk, q⟩ g dv => ?_
    subst q
    cases dv
    refine ⟨k, rfl, by omega, by omega, kk _ _ G1 H1 ⟨k, hk, rfl⟩ g ⟨fun H _ => ?_, fun i d G2 H2 g2 s2 hd => ?_⟩⟩
    · show (k : Int).toNat ≤ _
      rw [natsD_len]; omega
    · obtain ⟨h1, h2⟩ := natsD_at hd
      subst h2
      refine ⟨show i < (k : Int).toNat by omega, fun v H' ⟨e1, e2⟩ => ?_⟩
      subst e1 e2
      exact ⟨G2, Ext.refl s2, by rw [Int.zero_add]; exact .int _⟩
  · intro e1 sb j d δ1 σ1 G3 H3 hd hP S3
    obtain ⟨l, c6, c7, rfl, f⟩ := hP
    subst q
    obtain ⟨hj, rfl⟩ := natsD_at hd
    refine ⟨_, _, ga_name, fun σ2 G4 H4 S4 => ?_⟩
    have S4 : Sd e1 (F l (.d (.bool b)) (.d (iD j)) c7) G4 H4 σ2 := S4
    refine s_if (Rt := fun _ => True) S4 (et_T (z0 4 (by decide) (by decide) rfl)) (fun _ G5 H5 _ S5 => ?_) fun _ G5 H5 _ S5 => ?_
    · refine q_asg (R := fun d => ∃ k, k < n ∧ d = iD k) S5 (ed_callB rfl n (ea_c (ed_ix (n := 0) (da := netD n as) (ed_var rfl) ed_int .t rfl) ea_nil) ⟨n0, by omega⟩ fun d q => q) fun d w2 G6 H6 ⟨k, hk, q⟩ _ _ S6 => ?_
      subst q
      exact st_gone (j := 4) (u := k) (v := k) S6 rfl rfl rfl rfl rfl ok hk hk f (.inl rfl) fun l' G7 H7 f' _ S7 => ⟨_, G7, ⟨l', _, _, rfl, f'⟩, S7⟩
    · refine s_if (Rt := fun _ => True) S5 (et_B (ER.to (ed_var rfl) ⟨b, rfl, trivial⟩)) (fun _ G6 H6 _ S6 => ?_) fun _ G6 H6 _ S6 => ?_
      · exact st_gone (j := 4) (u := t) (v := s) S6 rfl rfl rfl rfl rfl ok ht hs f (.inr ⟨.inr rfl, .inl rfl⟩) fun l' G7 H7 f' _ S7 => ⟨_, G7, ⟨l', _, _, rfl, f'⟩, S7⟩
      · exact st_gone (j := 4) (u := s) (v := t) S6 rfl rfl rfl rfl rfl ok hs ht f (.inr ⟨.inl rfl, .inr rfl⟩) fun l' G7 H7 f' _ S7 => ⟨_, G7, ⟨l', _, _, rfl, f'⟩, S7⟩
  · intro δn σn Gn Hn hP _ Sn
    obtain ⟨l, c6, c7, rfl, f⟩ := hP
    exact s_retLB Sn rfl (i := 4) rfl (by decide) i.eB i.rt ⟨l, f, rfl⟩
end
end DL
namespace DL
open PySem L2
abbrev pI (p : List Nat) : List PyData := (p.map fun i : Nat => (i : Int)).map PyData.int
theorem pI_snoc (p : List Nat) (i : Nat) : pI p ++ [iD i] = pI (p ++ [i]) := by unfold pI; rw [List.map_append, List.map_append]; rfl
theorem pI_len (p : List Nat) : (pI p).length = p.length := by simp [pI]
theorem pI_iD (p : List Nat) : p.map iD = pI p := by unfold pI; rw [List.map_map]; rfl
structure PathOk (as : List FM.Arc) (l : List Int) (u : Nat) (p : List Nat) (w : Nat) : Prop where
  j : FM.Joined as u (FM.fwd p) w
  nd : p.Nodup
  lt : ∀ i ∈ p, i < as.length
  free : ∀ i a x, i ∈ p → as[i]? = some a → l[i]? = some x → ∀ m, a.mo = some m → x < m
theorem PathOk.snoc {as : List FM.Arc} {l : List Int} {u w i : Nat} {p : List Nat} {a : FM.Arc} {x : Int} (h : PathOk as l u p w) (ha : as[i]? = some a) (hx : l[i]? = some x) (hw : a.tl = w) (hn : i ∉ p) (hm : ∀ m, a.mo = some m → x < m) : PathOk as l u (p ++ [i]) a.hd := by
  refine ⟨?_, ?_, fun k hk => ?_, fun k b y hk hb hy m hmo => ?_⟩
  · have := h.j.snoc (i := i) (f := true) ha hw.symm
    unfold FM.fwd at this ⊢
    rw [List.map_append]; exact this
  · rw [List.nodup_append]
    exact ⟨h.nd, by simp, fun y hy b hb z => by simp at hb; subst hb; subst z; exact hn hy⟩
  · rcases List.mem_append.mp hk with z | z
    · exact h.lt k z
    · have : k = i := by simpa using z
      rw [this]; exact (List.getElem?_eq_some_iff.mp ha).1
  · rcases List.mem_append.mp hk with z | z
    · exact h.free k b y z hb hy m hmo
    · have : k = i := by simpa using z
      subst this
      rw [ha] at hb; rw [hx] at hy
      cases hb; cases hy
      exact hm m hmo
section
variable {K : PySem.W.Frag} {C : Addr} {E E' : XK} {vs : List V} {H : Hp} {Q : VK}
theorem fwd_take (p : List Nat) (k : Nat) : FM.fwd (p.take k) = (FM.fwd p).take k := by unfold FM.fwd; rw [List.map_take]
theorem pu_law_gone (h : sp_law_gone C vs H Q E) : t_law_gone K C E' { nx := fun _ H' => Q .non H', rt := Q } (L2.start ["_law_box_here", "_law_net_here", "_law_load", "_law_start_here", "_law_goal", "_law_many", "_law_arcs", "_law_here", "_law_gone_here", "_law_turn", "_law_some", "_law_at"] vs) H := by
  obtain ⟨G, ⟨n, as, s, t, l, u, v⟩, bx, la, v1, v3, v4, bi, bj, rfl, sub, gb, gl, bl, hb, hla, d1, d3, d4, ok, hu, hv, f, he, hq⟩ := h
  have d1 : Dg G v1 (netD n as) := d1
  have d3 : Dg G v3 (iD u) := d3
  have d4 : Dg G v4 (iD v) := d4
  have hla : H la = some (.lst (l.map V.int)) := hla
  have ok : NetOk n as := ok
  have hu : u < n := hu
  have hv : v < n := hv
  have f : FM.Flow n as s t l := f
  have he : u = v ∨ ((u = s ∨ u = t) ∧ (v = s ∨ v = t)) := he
  have hlen := f.1.len
  have osz := ok.sz
  have n1 := ok.n1
  let e : Ent := ⟨G, H, fun a => a = bx ∨ a = la⟩
  let F0 (l : List Int) (c5 c6 c7 c8 c9 c10 c11 : Cell) : Fm := [.b bx, Cell.p v1 (netD n as), .la la (l.map PyData.int), Cell.p v3 (iD u), Cell.p v4 (iD v), c5, c6, c7, c8, c9, c10, c11]
  have S0 : Sd e (F0 l .no .no .no .no .no .no .no) G H (L2.start ["_law_box_here", "_law_net_here", "_law_load", "_law_start_here", "_law_goal", "_law_many", "_law_arcs", "_law_here", "_law_gone_here", "_law_turn", "_law_some", "_law_at"] [.ref bx, v1, .ref la, v3, v4]) := by
    have ow : ∀ {i : Nat} {c : Cell} {a : Addr}, (F0 l .no .no .no .no .no .no .no)[i]? = some c → Own (L2.start ["_law_box_here", "_law_net_here", "_law_load", "_law_start_here", "_law_goal", "_law_many", "_law_arcs", "_law_here", "_law_gone_here", "_law_turn", "_law_some", "_law_at"] [.ref bx, v1, .ref la, v3, v4])[i]? a c → (i = 0 ∧ a = bx) ∨ (i = 2 ∧ a = la) := fun {i c a} hc w => by
      match i, hc with
      | 0, hc =>
        cases hc
        have w : (some (some (V.ref bx)) : Option (Option V)) = some (some (.ref a)) := w
        cases w; exact .inl ⟨rfl, rfl⟩
      | 1, hc => cases hc; exact w.elim
      | 2, hc =>
        cases hc
        have w : (some (some (V.ref la)) : Option (Option V)) = some (some (.ref a)) := w
        cases w; exact .inr ⟨rfl, rfl⟩
      | 3, hc => cases hc; exact w.elim
      | 4, hc => cases hc; exact w.elim
      | 5, hc => cases hc; exact w.elim
      | 6, hc => cases hc; exact w.elim
      | 7, hc => cases hc; exact w.elim
      | 8, hc => cases hc; exact w.elim
      | 9, hc => cases hc; exact w.elim
      | 10, hc => cases hc; exact w.elim
      | 11, hc => cases hc; exact w.elim
      | _ + 12, hc => cases hc
    refine ⟨sub, Ex.rfl', fun _ _ q _ => q, fun _ q => .inl q, fun a q => ?_, rfl, fun i c hc => ?_, fun i c a hc w => ?_, fun i j c c' a q1 q2 w1 w2 => ?_⟩
    · rcases q with q | q
      · rw [q, hb]; exact Option.some_ne_none _
      · rw [q, hla]; exact Option.some_ne_none _
    · match i, hc with
      | 0, hc => cases hc; exact ⟨rfl, _, _, hb⟩
      | 1, hc => cases hc; exact ⟨rfl, d1⟩
      | 2, hc => cases hc; exact ⟨rfl, _, hla, DgAll.ofInts l⟩
      | 3, hc => cases hc; exact ⟨rfl, d3⟩
      | 4, hc => cases hc; exact ⟨rfl, d4⟩
      | 5, hc => cases hc; trivial
      | 6, hc => cases hc; trivial
      | 7, hc => cases hc; trivial
      | 8, hc => cases hc; trivial
      | 9, hc => cases hc; trivial
      | 10, hc => cases hc; trivial
      | 11, hc => cases hc; trivial
      | _ + 12, hc => cases hc
    · rcases ow hc w with ⟨_, z⟩ | ⟨_, z⟩
      · exact ⟨.inl (.inl z), by rw [z]; exact gb⟩
      · exact ⟨.inl (.inr z), by rw [z]; exact gl⟩
    · rcases ow q1 w1 with ⟨z1, y1⟩ | ⟨z1, y1⟩ <;> rcases ow q2 w2 with ⟨z2, y2⟩ | ⟨z2, y2⟩
      · rw [z1, z2]
      · exact absurd (y1.symm.trans y2) bl
      · exact absurd (y2.symm.trans y1) bl
      · rw [z1, z2]
  have fin : ∀ {δ : Fm} {σ : L2.St} {G' H' : Hp} {l' : List Int}, Sd e δ G' H' σ → δ[0]? = some (.b bx) → δ[2]? = some (.la la (l'.map PyData.int)) → FM.Flow n as s t l' → Q .non H' := fun {δ σ G' H' l'} S h0 h2 f' => by
    obtain ⟨_, b2, _⟩ := S.box h0
    obtain ⟨_, ys, k2, k3⟩ := S.cells 2 _ h2
    have := k3.ints
    subst this
    exact hq G' H' l' f' ⟨S.grow, fun a o z1 z2 ha => S.old a o ha fun z => z.elim z1 z2, b2, S.sub, S.new⟩ k2
  refine q_asgG (R := fun d => d = netD n as) (δ' := fun _ => F0 l (.d (iD n)) (.d (arcsD as)) .no .no .no .no .no) S0 (ed_var rfl) (fun d q => by rw [q]; exact ga_two) fun d σ1 G1 H1 _ _ S1 => ?_
  let F (p : List Nat) (w : Nat) (c9 c10 : Cell) : Fm := F0 l (.d (iD n)) (.d (arcsD as)) (.d (iD w)) (.l (pI p)) c9 c10 .no
  refine q_tupL (d := iD u) S1 rfl (by decide) fun σ2 H2 S2 => ?_
  have S2 : Sd e (F [] u .no .no) G1 H2 σ2 := S2
  refine s_forD (items := natsD (2 * n)) S2 (it_range1 (ea_c (ER.is (ed_mul ed_int (ed_var rfl) (.inl ⟨by decide, by decide⟩)) (by show PyData.int (2 * (n : Int)) = PyData.int ((2 * n : Nat) : Int); congr 1)) ea_nil) (by omega)) (fun j δ => ∃ p w c9 c10, δ = F p w c9 c10 ∧ PathOk as l u p w ∧ p.length = j ∧ w < n) ⟨[], u, .no, .no, rfl, ⟨.nil, List.nodup_nil, fun _ h => (nomatch h), fun _ _ _ h => (nomatch h)⟩, rfl, hu⟩ (fun e1 sb j d δ1 σ1 G3 H3 hd hP S3 => ?_) fun δn σn Gn Hn hP _ Sn => ?_
  · obtain ⟨p, w, c9, c10, rfl, hp, hpl, hw⟩ := hP
    obtain ⟨hj, rfl⟩ := natsD_at hd
    refine ⟨_, _, ga_name, fun σ2 G4 H4 S4 => ?_⟩
    have S4 : Sd e1 (F p w (.d (iD j)) c10) G4 H4 σ2 := S4
    have ea : ∀ {e2 : Ent} {δ' : Fm} (k : Nat) {i : Nat} {a : FM.Arc} {d : PyData}, (δ'[6]?).bind cellD = some (arcsD as) → (δ'[11]?).bind cellD = some (iD i) → as[i]? = some a → [iD a.tl, iD a.hd, optD a.mo][k]? = some d → ED e2 (tOp (rIx K) (tOp (rIx K) (tVar 6) (tVar 11)) (tC (.int (k : Int)))) δ' d := fun {e2 δ'} k {i a d} h6 h11 hi hk => ed_arc (ed_var h6) (ed_var h11) hi hk
    let p1 (i : Nat) : Bool := decide ((as.getD i arc0).tl = w) && !decide (i ∈ p)
    let s1 : List Nat := (List.range as.length).filter p1
    have s1z : s1.length ≤ 1000 := by
      have := List.length_filter_le p1 (List.range as.length)
      have h2 : (List.range as.length).length = as.length := List.length_range
      show ((List.range as.length).filter p1).length ≤ _
      omega
    refine q_set (d := .list (s1.map iD)) S4 (el_ed (el_lc (xs := List.range as.length) (enc := iD) (p := p1) (f := iD) (δ' := fun i => (F p w (.d (iD j)) c10).set 11 (.d (iD i))) (it_range1 (ea_c (ER.is (ed_len rfl (ed_var rfl) .t) (by rw [List.length_map])) ea_nil) (by omega)) (fun _ h => h) rfl (fun p _ => ga_name) (fun _ _ => rfl) (fun i hi => ?_) (fun i _ _ => ed_var rfl) (by simp; omega))) fun w1 G5 H5 _ _ S5 => ?_
    · have hi := List.mem_range.mp hi
      have ha : as[i]? = some as[i] := List.getElem?_eq_getElem hi
      refine eb_and (eb_T (ER.is (ed_eqD (ea 0 rfl rfl ha rfl) (ed_var rfl) rfl rfl) (by rw [eqv_iD, getD_some ha]))) fun _ => eb_T (ER.is (ed_inO (neg := true) (x := (i : Int)) (ns := p.map fun i : Nat => (i : Int)) (ed_var rfl) rfl) ?_)
      have := mem_cast (L := p) (v := i)
      rw [this]; rfl
    have S5 : Sd e1 (F p w (.d (iD j)) (.d (.list (s1.map iD)))) G5 H5 _ := S5
    let p2 (i : Nat) : Bool := isNone (optD (as.getD i arc0).mo) || match (as.getD i arc0).mo with
      | none => true
      | some m => decide (l.getD i 0 < m)
    let s2 : List Nat := s1.filter p2
    have s2z : s2.length ≤ 1000 := Nat.le_trans (List.length_filter_le p2 s1) s1z
    refine q_set (d := .list (s2.map iD)) S5 (el_ed (el_lc (xs := s1) (enc := iD) (p := p2) (f := iD) (δ' := fun i => (F p w (.d (iD j)) (.d (.list (s1.map iD)))).set 11 (.d (iD i))) (it_seq (ed_var rfl) .l) (fun _ h => h) rfl (fun p _ => ga_name) (fun _ _ => rfl) (fun i hi => ?_) (fun i _ _ => ed_var rfl) (by omega))) fun w2 G6 H6 _ _ S6 => ?_
    · have hi := List.mem_range.mp (List.mem_filter.mp hi).1
      have ha : as[i]? = some as[i] := List.getElem?_eq_getElem hi
      have hx : l[i]? = some (l[i]'(by omega)) := List.getElem?_eq_getElem (by omega)
      generalize as[i] = a at ha
      generalize l[i]'(by omega) = x at hx
      refine ET.is (eb_or (b := match a.mo with
        | none => true
        | some m => decide (x < m)) (eb_T (ed_isN (ea 2 rfl rfl ha rfl))) fun hn => ?_) (by show _ = p2 i; simp only [p2]; rw [getD_some ha, getD_some hx])
      cases hm : a.mo with
      | none => rw [hm] at hn; cases hn
      | some m => exact eb_T (ed_lt (ed_ixA (n := i) (d := .int x) rfl (ed_var rfl) (by rw [List.getElem?_map, hx]; rfl)) (ER.is (ea 2 rfl rfl ha rfl) (by rw [hm]; rfl)))
    have S6 : Sd e1 (F p w (.d (iD j)) (.d (.list (s2.map iD)))) G6 H6 _ := S6
    refine q_if0 (b := s2.isEmpty) S6 (eb_T (ER.is (ed_eqNilD (ed_var rfl) (shp_nbs (by rw [List.all_map, List.all_eq_true]; intro x _; rfl))) (by simp))) (fun _ G7 H7 _ S7 => fin (sb.back S7) rfl rfl f) fun z G7 H7 _ S7 => ?_
    have h0 : 0 < s2.length := by
      cases hs : s2 with
      | nil => rw [hs] at z; cases z
      | cons a r => simp
    refine q_app (R := fun d => ∃ i, i ∈ s2 ∧ d = iD i) S7 rfl (ed_callB rfl (s2.map iD) (ea_c (ed_var rfl) ea_nil) ⟨by simp; exact h0, by simp; omega⟩ fun d ⟨k, q⟩ => ?_) (by rw [pI_len]; omega) fun d G8 H8 ⟨i, hi, q⟩ _ S8 => ?_
    · obtain ⟨i, hi, rfl⟩ := List.mem_map.mp (List.mem_of_getElem? q)
      exact ⟨i, hi, rfl⟩
    subst q
    obtain ⟨m1, m2⟩ := List.mem_filter.mp hi
    obtain ⟨m3, m4⟩ := List.mem_filter.mp m1
    have hil := List.mem_range.mp m3
    have ha : as[i]? = some as[i] := List.getElem?_eq_getElem hil
    have hx : l[i]? = some (l[i]'(by omega)) := List.getElem?_eq_getElem (by omega)
    generalize as[i] = a at ha
    generalize l[i]'(by omega) = x at hx
    simp only [p1, Bool.and_eq_true, Bool.not_eq_true', decide_eq_true_eq, decide_eq_false_iff_not] at m4
    rw [getD_some ha] at m4
    have hp' : PathOk as l u (p ++ [i]) a.hd := hp.snoc ha hx m4.1 m4.2 fun m hm => by
      simp only [p2] at m2
      rw [getD_some ha, getD_some hx, hm] at m2
      simpa [isNone, optD] using m2
    have hdn : a.hd < n := (ok.wf a (List.mem_of_getElem? ha)).2.1
    refine q_set (d := iD a.hd) S8 (ed_arc (k := 1) (ed_var rfl) (ed_ixLast (d := iD i) rfl (ER.is (ed_neg (i := 1) ed_int) rfl)) ha rfl) fun w3 G9 H9 _ _ S9 => ?_
    have e2 := pI_snoc p i
    have zS := S9
    rw [e2] at zS
    have S9 : Sd e1 (F (p ++ [i]) a.hd (.d (iD j)) (.d (.list (s2.map iD)))) G9 H9 _ := zS
    refine s_ifB (b := decide (a.hd = v)) S9 (eb_T (ER.is (ed_eqD (ed_var rfl) (ed_var rfl) rfl rfl) (by rw [eqv_iD]))) (fun z G10 H10 _ S10 => ?_) fun z G10 H10 _ S10 => ⟨_, G10, ⟨p ++ [i], a.hd, _, _, rfl, hp', by simp [hpl], hdn⟩, S10⟩
    -- the path is gone
    have z := of_decide_eq_true z
    obtain ⟨G11, _, S11⟩ := S10.freeze (i := 8) rfl fun b hb1 hb2 => by
      rw [sb.b] at hb2
      rcases hb2 with y | y
      · subst y
        exact absurd (S10.apart 0 8 _ _ b rfl rfl (S10.cells 0 _ rfl).1 hb1) (by decide)
      · subst y
        exact absurd (S10.apart 2 8 _ _ b rfl rfl (S10.cells 2 _ rfl).1 hb1) (by decide)
    let pp := p ++ [i]
    let L (k : Nat) : List Int := FM.goneL l (FM.fwd (pp.take k)) 1
    let F2 (k : Nat) (c11 : Cell) : Fm := F0 (L k) (.d (iD n)) (.d (arcsD as)) (.d (iD a.hd)) (.d (.list (pI pp))) (.d (iD j)) (.d (.list (s2.map iD))) c11
    have S11 : Sd e1 (F2 0 .no) G11 H10 _ := S11
    refine seq (s_forD (items := pp.map iD) S11 (it_seq (ed_var (by show some (PyData.list (pI pp)) = _; rw [← pI_iD])) .l) (fun k δ => ∃ c11, δ = F2 k c11) ⟨.no, rfl⟩ (fun e2 sb2 k d δ1 σ1 G12 H12 hd hP S12 => ?_) fun δn σn Gn Hn hP _ Sn => ?_)
    · obtain ⟨c11, rfl⟩ := hP
      rw [List.getElem?_map] at hd
      obtain ⟨q, hq', rfl⟩ := Option.map_eq_some_iff.mp hd
      have hql := hp'.lt q (List.mem_of_getElem? hq')
      refine ⟨_, _, ga_name, fun σ3 G13 H13 S13 => ?_⟩
      have hlt : q < (L k).length := by show q < (FM.goneL l _ 1).length; rw [FM.gone_len]; omega
      have hx : (L k)[q]? = some (L k)[q] := List.getElem?_eq_getElem hlt
      refine s_augA (n := q) (x := (L k)[q]) (y := 1) S13 (a := la) (xs := (L k).map PyData.int) rfl (ed_var rfl) (by rw [List.getElem?_map, hx]; rfl) ed_int fun G14 H14 _ S14 => ⟨_, G14, ⟨.d (iD q), ?_⟩, S14⟩
      have key : ((L k).map PyData.int).set q (.int ((L k)[q] + 1)) = (L (k + 1)).map PyData.int := by
        show _ = (FM.goneL l (FM.fwd (pp.take (k + 1))) 1).map PyData.int
        rw [take_snoc hq']
        have e3 : FM.fwd (pp.take k ++ [q]) = FM.fwd (pp.take k) ++ [(q, true)] := by unfold FM.fwd; rw [List.map_append]; rfl
        rw [e3, goneL_snoc]
        unfold FM.gone1
        rw [List.map_set]
        show _ = ((L k).map PyData.int).set q (.int ((L k).getD q 0 + 1))
        rw [getD_some hx]
      exact congrArg (fun X => [Cell.b bx, Cell.p v1 (netD n as), .la la X, Cell.p v3 (iD u), Cell.p v4 (iD v), .d (iD n), .d (arcsD as), .d (iD a.hd), .d (.list (pI pp)), .d (iD j), .d (.list (s2.map iD)), .d (iD q)]) key
    · obtain ⟨c11, rfl⟩ := hP
      rw [List.length_map] at Sn
      have e4 : L pp.length = FM.goneL l (FM.fwd pp) 1 := by show FM.goneL l (FM.fwd (pp.take pp.length)) 1 = _; rw [List.take_length]
      refine fin (l' := FM.goneL l (FM.fwd pp) 1) (sb.back Sn) rfl (by show some (Cell.la la ((L pp.length).map PyData.int)) = _; rw [e4]) ?_
      exact FM.drawn_flow f (v := v) (by rw [← z]; exact hp'.j) hp'.nd he fun i a x hi h1 h2 m hm => hp'.free i a x hi h1 h2 m hm
  · obtain ⟨p, w, c9, c10, rfl, _⟩ := hP
    exact fin Sn rfl rfl f
end
end DL
namespace DL
open PySem L2
theorem eqv_bool (a b : Bool) : PyData.eqv (.bool a) (.bool b) = (a == b) := by
  cases a <;> cases b <;> simp [PyData.eqv]
section
variable {e : Ent} {δ : Fm} {tr : TA} {C : Addr} {E : XK} {R : PyData → Prop} {Rs : List PyData → Prop}
theorem DgAll.revD {G : Hp} {vs : List V} {ds : List PyData} (h : DgAll G vs ds) : DgAll G vs.reverse ds.reverse := h.rev
theorem er_callR {α : Type} {enc : α → List PyData} {pre : α → Prop} {bad : α → Option Nat} {Rr : α → PyData → Prop} (h : EA e tr δ Rs) (hp : ∀ ds, Rs ds → ∃ p, ds.reverse = enc p ∧ pre p ∧ bad p = none ∧ ∀ d, Rr p d → R d) :
    ER e (tCallR (SP C enc pre bad Rr) E tr) δ R := fun σ G H Q S k => h σ G H _ S fun ds vs G1 H1 r g q => by
  obtain ⟨p, h1, h2, h3, h4⟩ := hp ds r
  refine ⟨G1, p, g.s.sub, by rw [← h1]; exact q.rev, h2, fun _ v d G' H' rd x dg => k d v G' H' (h4 d rd) (g.trans (g.s.go x)) dg, fun k w hk => ?_⟩
  rw [h3] at hk; cases hk
theorem ed_callR {α : Type} {enc : α → List PyData} {pre : α → Prop} {bad : α → Option Nat} {Rr : α → PyData → Prop} {ds : List PyData} (p : α) (h : EAD e tr δ ds) (hds : ds.reverse = enc p) (hp : pre p) (hb : bad p = none) (hr : ∀ d, Rr p d → R d) :
    ER e (tCallR (SP C enc pre bad Rr) E tr) δ R := er_callR h fun _ q => ⟨p, by rw [q]; exact hds, hp, hb, hr⟩
end
section
variable {K : PySem.W.Frag} {C : Addr} {E E' : XK} {vs : List V} {H : Hp} {Q : VK}
theorem pu_law_near (h : sp_law_near C vs H Q E) : t_law_near K C E' { nx := fun _ H' => Q .non H', rt := Q } (L2.start ["_law_net_here", "_law_load", "_law_start_here", "_law_line", "_law_turn", "_law_at", "_law_tail", "_law_head", "_law_most"] vs) H := by
  obtain ⟨⟨n, as, b, b2, l, s⟩, v1, v2, v3, G, e, rfl, d1, d2, d3, i⟩ := SP.in3 h (fun _ => rfl) ["_law_net_here", "_law_load", "_law_start_here", "_law_line", "_law_turn", "_law_at", "_law_tail", "_law_head", "_law_most"] (by decide)
  obtain ⟨ok, hb, hs⟩ := i.pre
  have ok : NetOk n as := ok
  have hb : FM.Borne as l := hb
  have hs : s < n := hs
  have hlen := hb.len
  have n1 := ok.n1
  have osz := ok.sz
  let nt : PyData := .tuple [iD n, sqD b (as.map arcD)]
  let F (L : List Nat) (c4 c5 c6 c7 c8 : Cell) : Fm := [Cell.p v1 nt, Cell.p v2 (sqD b2 (l.map PyData.int)), Cell.p v3 (iD s), .l (pI L), c4, c5, c6, c7, c8]
  refine q_asgL i.S (el_lst (ea_c (ed_var rfl) ea_nil) fun _ q => by rw [q]; exact (show 1 ≤ 1000000 by decide)) fun xs p G1 H1 q _ _ S1 => ?_
  subst q
  have S1 : Sd e (F [s] .no .no .no .no .no) G1 H1 _ := S1
  have bound : ∀ {L : List Nat} {h at_ : Nat}, FM.NI as l s L h at_ → L.length ≤ n := fun N => FM.nodup_lt_len n _ N.nd fun x hx => (N.re x hx).lt ok.wf hs
  have earcs : ∀ {e2 : Ent} {δ' : Fm}, (δ'[0]?).bind cellD = some nt → ED e2 (tOp (rIx K) (tVar 0) (tC (.int 1))) δ' (sqD b (as.map arcD)) := fun h0 => ed_ix (n := 1) (ed_var h0) ed_int .t rfl
  refine q_forD (items := natsD n) S1 (it_range1 (ea_c (ed_ix (n := 0) (ed_var rfl) ed_int .t rfl) ea_nil) (by omega)) (fun k δ => ∃ L c4 c5 c6 c7 c8, δ = F L c4 c5 c6 c7 c8 ∧ FM.NI as l s L k 0) ⟨[s], .no, .no, .no, .no, .no, rfl, FM.NI.start⟩ (fun e1 sb k d δ1 σ1 G2 H2 hd hP S2 => ?_) fun δn σn Gn Hn hP _ Sn => ?_
  · obtain ⟨L, c4, c5, c6, c7, c8, rfl, N⟩ := hP
    obtain ⟨hk, rfl⟩ := natsD_at hd
    refine ⟨_, _, ga_name, fun σ2 G3 H3 S3 => ?_⟩
    have S3 : Sd e1 (F L (.d (iD k)) c5 c6 c7 c8) G3 H3 σ2 := S3
    let m : Nat := if k < L.length then as.length else 0
    have em : ED e1 (tIf (tTest (tOp (rI0 fun i j => .bl (decide (i < j))) (tVar 4) (tCB (rLen K) (tCons (tVar 3) tNil)))) (tCB (rLen K) (tCons (tOp (rIx K) (tVar 0) (tC (.int 1))) tNil)) (tC (.int 0))) (F L (.d (iD k)) c5 c6 c7 c8) (iD m) := by
      refine ed_if (b := decide (k < L.length)) (eb_T (ER.is (ed_lt (ed_var rfl) (ed_lenO rfl rfl)) ?_)) (fun z => ?_) fun z => ?_
      · rw [pI_len]
        congr 1
        rw [decide_eq_decide]; omega
      · show ER _ _ _ fun d => d = iD (if k < L.length then as.length else 0)
        rw [if_pos (of_decide_eq_true z)]
        exact ER.is (ed_len rfl (earcs rfl) (sqD_seq b _)) (by rw [List.length_map])
      · show ER _ _ _ fun d => d = iD (if k < L.length then as.length else 0)
        rw [if_neg (of_decide_eq_false z)]
        exact ed_int
    refine s_forD (items := natsD m) S3 (it_range1 (ea_c em ea_nil) (by show (if k < L.length then as.length else 0) ≤ 1000000; split <;> omega)) (fun j δ => ∃ L' c5 c6 c7 c8, δ = F L' (.d (iD k)) c5 c6 c7 c8 ∧ FM.NI as l s L' k j ∧ (0 < m → k < L'.length) ∧ (k < L'.length → k < L.length)) ⟨L, c5, c6, c7, c8, rfl, N, fun z => ?_, fun z => z⟩ (fun e2 sb2 j d δ1 σ1 G4 H4 hd hP S4 => ?_) fun δn σn Gn Hn hP _ Sn => ?_
    · by_cases q : k < L.length
      · exact q
      · simp [m, q] at z
    · obtain ⟨L', c5, c6, c7, c8, rfl, N', hm, hm2⟩ := hP
      obtain ⟨hj, rfl⟩ := natsD_at hd
      have hkl : k < L'.length := hm (by omega)
      have hkL := hm2 hkl
      have hja : j < as.length := by simp [m, hkL] at hj; exact hj
      have ha : as[j]? = some as[j] := List.getElem?_eq_getElem hja
      have hx : l[j]? = some (l[j]'(by omega)) := List.getElem?_eq_getElem (by omega)
      generalize as[j] = a at ha
      generalize l[j]'(by omega) = x at hx
      obtain ⟨x0, xm⟩ := hb.get ha hx
      obtain ⟨y, hy⟩ : ∃ y, L'[k]? = some y := ⟨_, List.getElem?_eq_getElem hkl⟩
      have hyn : y < n := (N'.re y (List.mem_of_getElem? hy)).lt ok.wf hs
      have ry := N'.re y (List.mem_of_getElem? hy)
      refine ⟨_, _, ga_name, fun σ3 G5 H5 S5 => ?_⟩
      have S5 : Sd e2 (F L' (.d (iD k)) (.d (iD j)) c6 c7 c8) G5 H5 σ3 := S5
      refine q_asgG (R := fun d => d = arcD a) (δ' := fun _ => F L' (.d (iD k)) (.d (iD j)) (.d (iD a.tl)) (.d (iD a.hd)) (.d (optD a.mo))) S5 (ed_ix (n := j) (earcs rfl) (ed_var rfl) (sqD_seq b _) (by rw [List.getElem?_map, ha]; rfl)) (fun d q => by rw [q]; exact ga_three) fun d σ4 G6 H6 _ _ S6 => ?_
      have ely : ∀ {e3 : Ent} {δ' : Fm} {M : List Nat}, δ'[3]? = some (.l (pI M)) → M[k]? = some y → (δ'[4]?).bind cellD = some (iD k) → ED e3 (tOp (rIx K) (tVar 3) (tVar 4)) δ' (iD y) := fun {e3 δ' M} h3 hM h4 => ed_ixO (n := k) h3 (ed_var h4) (by unfold pI; rw [List.getElem?_map, List.getElem?_map, hM]; rfl)
      have nin : ∀ {e3 : Ent} {δ' : Fm} {M : List Nat} {z i : Nat}, δ'[3]? = some (.l (pI M)) → (δ'[i]?).bind cellD = some (iD z) → ED e3 (tOp (rIn K true) (tVar i) (tVar 3)) δ' (.bool (!decide (z ∈ M))) := fun {e3 δ' M z i} h3 hi => ER.is (ed_inO (neg := true) (x := (z : Int)) (ns := M.map fun i : Nat => (i : Int)) (ed_var hi) h3) (by
        have := mem_cast (L := M) (v := z)
        rw [this]; rfl)
      have elx : ∀ {e3 : Ent} {δ' : Fm}, (δ'[1]?).bind cellD = some (sqD b2 (l.map PyData.int)) → (δ'[5]?).bind cellD = some (iD j) → ED e3 (tOp (rIx K) (tVar 1) (tVar 5)) δ' (.int x) := fun h1 h5 => ed_ix (n := j) (ed_var h1) (ed_var h5) (sqD_seq b2 _) (by rw [List.getElem?_map, hx]; rfl)
      let tst : Bool := isNone (optD a.mo) || match a.mo with
        | none => true
        | some m => decide (x < m)
      have rt : FM.lft a x true ≠ some 0 ↔ tst = true := by
        show _ ↔ (isNone (optD a.mo) || _) = true
        cases hm : a.mo with
        | none => simp [FM.lft, hm, isNone, optD]
        | some m =>
          have := xm m hm
          simp only [FM.lft, hm, isNone, optD, Bool.false_or, decide_eq_true_eq]
          simp only [if_true]
          constructor
          · intro h
            have : m - x ≠ 0 := fun z => h (by rw [z])
            omega
          · intro h z
            have : m - x = 0 := Option.some.inj z
            omega
      have rf : FM.lft a x false ≠ some 0 ↔ 0 < x := by
        simp only [FM.lft]
        simp only [if_false, Bool.false_eq_true]
        constructor
        · intro h
          have : x ≠ 0 := fun z => h (by rw [z])
          omega
        · intro h z
          have : x = 0 := Option.some.inj z
          omega
      -- behind the first test
      have step2 : ∀ (M : List Nat) σ G H, FM.NI as l s M k j → k < M.length → M[k]? = some y → (∀ v, FM.Res as l y v j true → v ∈ M) → Sd e2 (F M (.d (iD k)) (.d (iD j)) (.d (iD a.tl)) (.d (iD a.hd)) (.d (optD a.mo))) G H σ →
          tIfS (tAnd (tTest (tOp (rEqD K) (tVar 7) (tOp (rIx K) (tVar 3) (tVar 4)))) (tAnd (tTest (tOp (rIn K true) (tVar 6) (tVar 3))) (tTest (tOp (rI0 fun i j => .bl (decide (j < i))) (tOp (rIx K) (tVar 1) (tVar 5)) (tC (.int 0)))))) (tDrop (tBM K "list" rAppend (tVar 3) (tCons (tVar 6) tNil))) tNext
            { nx := Nx e2 (fun δ => ∃ L' c5 c6 c7 c8, δ = F L' (.d (iD k)) c5 c6 c7 c8 ∧ FM.NI as l s L' k (j + 1) ∧ (0 < m → k < L'.length) ∧ (k < L'.length → k < L.length)), ct := Nx e2 (fun δ => ∃ L' c5 c6 c7 c8, δ = F L' (.d (iD k)) c5 c6 c7 c8 ∧ FM.NI as l s L' k (j + 1) ∧ (0 < m → k < L'.length) ∧ (k < L'.length → k < L.length)), bk := Nx e1 (fun δ => ∃ L c4 c5 c6 c7 c8, δ = F L c4 c5 c6 c7 c8 ∧ FM.NI as l s L (k + 1) 0), rt := Q } σ H := fun M σ G H N2 hkM hyM h1 S => by
        refine s_ifB (b := decide (a.hd = y) && (!decide (a.tl ∈ M) && decide (0 < x))) S (eb_and (eb_T (ER.is (ed_eqD (ed_var rfl) (ely rfl hyM rfl) rfl rfl) (by rw [eqv_iD]))) fun _ => eb_and (eb_T (nin rfl rfl)) fun _ => eb_T (ed_gt (elx rfl rfl) ed_int)) (fun z G1 H1 _ S1 => ?_) fun z G1 H1 _ S1 => ?_
        · simp only [Bool.and_eq_true, Bool.not_eq_true', decide_eq_true_eq, decide_eq_false_iff_not] at z
          have r : FM.Res as l y a.tl j false := ⟨a, x, ha, hx, rf.mpr z.2.2, z.1.symm, rfl⟩
          have bM := bound N2
          refine s_app (R := fun d => d = iD a.tl) S1 rfl (ed_var rfl) (by rw [pI_len]; omega) fun d G2 H2 q _ S2 => ?_
          subst q
          have e3 := pI_snoc M a.tl
          have zS := S2
          rw [e3] at zS
          refine ⟨_, G2, ⟨M ++ [a.tl], _, _, _, _, rfl, (N2.more z.2.1 (.step ry ⟨j, false, r⟩) hkM).turn fun u f v hu hr => ?_, fun _ => by simp; omega, fun _ => hkL⟩, zS⟩
          rw [List.getElem?_append_left hkM, hyM] at hu
          cases hu
          cases f with
          | true => exact List.mem_append_left _ (h1 v hr)
          | false =>
            have := (hr.ends r).2
            subst this
            simp
        · refine ⟨_, G1, ⟨M, _, _, _, _, rfl, N2.turn fun u f v hu hr => ?_, fun _ => hkM, fun _ => hkL⟩, S1⟩
          rw [hyM] at hu
          cases hu
          cases f with
          | true => exact h1 v hr
          | false =>
            obtain ⟨a', x', r1, r2, r3, r4, r5⟩ := hr
            rw [ha] at r1; rw [hx] at r2
            cases r1; cases r2
            by_cases q : a.tl ∈ M
            · rw [r5]; exact q
            · have r4 : y = a.hd := r4
              simp [r4.symm, q, rf.mp r3] at z
      refine seq (s_ifB (b := decide (a.tl = y) && (!decide (a.hd ∈ L') && tst)) S6 (eb_and (eb_T (ER.is (ed_eqD (ed_var rfl) (ely rfl hy rfl) rfl rfl) (by rw [eqv_iD]))) fun _ => eb_and (eb_T (nin rfl rfl)) fun _ => eb_or (eb_T (ed_isN (ed_var rfl))) fun hn => ?_) (fun z G7 H7 _ S7 => ?_) fun z G7 H7 _ S7 => ?_)
      · cases hm : a.mo with
        | none => rw [hm] at hn; cases hn
        | some m =>
          exact eb_T (ed_lt (elx rfl rfl) (ed_var rfl))
      · simp only [Bool.and_eq_true, Bool.not_eq_true', decide_eq_true_eq, decide_eq_false_iff_not] at z
        have r : FM.Res as l y a.hd j true := ⟨a, x, ha, hx, rt.mpr z.2.2, z.1.symm, rfl⟩
        have bL := bound N'
        refine s_app (R := fun d => d = iD a.hd) S7 rfl (ed_var rfl) (by rw [pI_len]; omega) fun d G8 H8 q _ S8 => ?_
        subst q
        have e3 := pI_snoc L' a.hd
        have zS := S8
        rw [e3] at zS
        refine step2 (L' ++ [a.hd]) _ G8 H8 (N'.more z.2.1 (.step ry ⟨j, true, r⟩) hkl) (by simp; omega) (by rw [List.getElem?_append_left hkl]; exact hy) (fun v hr => ?_) zS
        have := (hr.ends r).2
        subst this
        simp
      · refine step2 L' _ G7 H7 N' hkl hy (fun v hr => ?_) S7
        obtain ⟨a', x', r1, r2, r3, r4, r5⟩ := hr
        rw [ha] at r1; rw [hx] at r2
        cases r1; cases r2
        by_cases q : a.hd ∈ L'
        · rw [r5]; exact q
        · have r4 : y = a.tl := r4
          simp [r4.symm, q, rt.mp r3] at z
    · obtain ⟨L', c5, c6, c7, c8, rfl, N', hm, hm2⟩ := hP
      rw [natsD_len] at N'
      refine ⟨_, Gn, ⟨L', _, c5, c6, c7, c8, rfl, N'.next fun z => ?_⟩, Sn⟩
      have := hm2 z
      show as.length ≤ (if k < L.length then as.length else 0)
      rw [if_pos this]; exact Nat.le_refl _
  · obtain ⟨L, c4, c5, c6, c7, c8, rfl, N⟩ := hP
    rw [natsD_len] at N
    exact s_retL Sn rfl i.nb (i.rt rfl) ⟨L, N.nd, N.done_ ok.wf hs, by rw [pI_iD]⟩
end
end DL
namespace DL
open PySem L2
/-- what is known of the best when a flow was led on -/
theorem led_best {n s t : Nat} {as : List FM.Arc} {l : List Int} {o : Option Int} {r : PyData} (wf : FM.Wf n as) (hs : s < n) (ht : t < n) (hb : FM.IsBest ((FM.law_lots n s [t] as).map (·.1)) o) (h : LedR n as s t l r) :
    (o = none ∧ FM.FreeR as s t ∧ r = .none) ∨ ∃ l', FM.Best n as s t l' ∧ o = some (FM.sur as l' t) ∧ FM.Keeps as s t l l' ∧ r = intsT l' := by
  rcases h with ⟨l', B, k, q⟩ | ⟨f, q⟩
  · exact .inr ⟨l', B, hb.uniq B.isBest, k, q⟩
  · exact .inl ⟨hb.uniq (FM.free_isBest wf hs ht f), f, q⟩
section
variable {K : PySem.W.Frag} {C : Addr} {E E' : XK} {vs : List V} {H : Hp} {Q : VK}
theorem badFit_none {d v : PyData} {n s t : Nat} {as : List FM.Arc} {l : List Int} (hd : netOf d = some (n, as)) (hs : s < n) (ht : t < n) (hne : s ≠ t) (hl : loadOf v = some l) (hf : FM.Flow n as s t l) : badFit d (iD s) (iD t) v = none := by
  rw [badFit_eq, badPair_of hd (nd_of hs) (nd_of ht) (Ne.symm hne), hd]
  simp only [nd_of hs, nd_of ht]
  rw [if_pos (isFit_iff.mpr ⟨l, hl, hf⟩)]
theorem led_R {d v r : PyData} {n s t : Nat} {as : List FM.Arc} {l : List Int} (hd : netOf d = some (n, as)) (hs : s < n) (ht : t < n) (hl : loadOf v = some l) (h : ∃ n' as' a b l', netOf d = some (n', as') ∧ ndOf n' (iD s) = some a ∧ ndOf n' (iD t) = some b ∧ loadOf v = some l' ∧ LedR n' as' a b l' r) : LedR n as s t l r := by
  obtain ⟨n', as', a, b, l', k1, k2, k3, k4, k5⟩ := h
  have q1 := k1.symm.trans hd
  cases q1
  have q2 := k2.symm.trans (nd_of hs)
  cases q2
  have q3 := k3.symm.trans (nd_of ht)
  cases q3
  have q4 := k4.symm.trans hl
  cases q4
  exact k5
theorem pu_law_led_right (h : sp_law_led_right C vs H Q E) : t_law_led_right K C E' { nx := fun _ H' => Q .non H', rt := Q } (L2.start ["_law_box_here", "_law_net_here", "_law_handed", "_law_start_here", "_law_goal", "_law_best_here", "_law_flow_here", "_law_told", "_law_at", "_law_has_most"] vs) H := by
  obtain ⟨⟨n, as, hd, s, t, o⟩, bx, v1, v2, v3, v4, v5, G, e, rfl, d1, d2, d3, d4, d5, i⟩ := BP.in5 h (fun _ => rfl) ["_law_box_here", "_law_net_here", "_law_handed", "_law_start_here", "_law_goal", "_law_best_here", "_law_flow_here", "_law_told", "_law_at", "_law_has_most"] (by decide)
  obtain ⟨ok, ⟨hz, hn⟩, hs, ht, hne, hb⟩ := i.pre
  have ok : NetOk n as := ok
  have hz : NetSz hd := hz
  have hn : netOf hd = some (n, as) := hn
  have hs : s < n := hs
  have ht : t < n := ht
  have hne : s ≠ t := hne
  have hb : FM.IsBest ((FM.law_lots n s [t] as).map (·.1)) o := hb
  have n1 := ok.n1
  have osz := ok.sz
  have nt := netOf_netD ok
  refine q_asg i.S (ed_callB rfl ⟨n, as, s, t⟩ (ea_c (ed_var rfl) (ea_c (ed_var rfl) (ea_c (ed_var rfl) ea_nil))) ⟨ok, hs, ht⟩ fun d q => q) fun d w1 G1 H1 ⟨l, f, q⟩ _ _ S1 => ?_
  subst q
  have f : FM.Flow n as s t l := f
  have hlen := f.1.len
  let F (c7 c8 : Cell) : Fm := [.b bx, Cell.p v1 (netD n as), Cell.p v2 hd, Cell.p v3 (iD s), Cell.p v4 (iD t), Cell.p v5 (optD o), .d (.list (l.map PyData.int)), c7, c8, .no]
  have S1 : Sd e (F .no .no) G1 H1 _ := S1
  have hlo : loadOf (.list (l.map PyData.int)) = some l := loadOf_ints (b := true) (of_borne f.1).1
  have hlt : loadOf (intsT l) = some l := loadOf_ints (b := false) (of_borne f.1).1
  have fit : isFit n as s t (.list (l.map PyData.int)) = true := isFit_iff.mpr ⟨l, hlo, f⟩
  refine q_if0 (b := false) S1 (eb_not (a := true) (eb_B (ed_call ⟨n, as, s, t, some (true, l)⟩ (ea_c (ed_var rfl) (ea_c (ed_var rfl) (ea_c (ed_var rfl) (ea_c (ed_var rfl) ea_nil)))) ⟨ok, by show l.length ≤ 2000; omega⟩ rfl fun d q => by rw [q]; exact congrArg PyData.bool fit))) (fun z => nomatch z) fun _ G2 H2 _ S2 => ?_
  have eg : ∀ {e2 : Ent} {δ' : Fm} (k : Nat) {i : Nat} {a : FM.Arc} {d : PyData}, (δ'[1]?).bind cellD = some (netD n as) → (δ'[8]?).bind cellD = some (iD i) → as[i]? = some a → [iD a.tl, iD a.hd, optD a.mo][k]? = some d → ED e2 (tOp (rIx K) (tOp (rIx K) (tOp (rIx K) (tVar 1) (tC (.int 1))) (tVar 8)) (tC (.int (k : Int)))) δ' d := fun {e2 δ'} k {i a d} h1 h8 hi hk => ed_arc (ed_ix (n := 1) (da := netD n as) (ed_var h1) ed_int .t rfl) (ed_var h8) hi hk
  refine seq (s_for (Ri := fun items => ∃ r1 r2, items = [r1, r2] ∧ LedR n as s t l r1 ∧ LedR n as s t l r2) S2 (it_seqR (el_er (Rl := fun ds => ∃ r1 r2, ds = [r1, r2] ∧ LedR n as s t l r1 ∧ LedR n as s t l r2) (el_lst (ea_cons (Ra := fun d => LedR n as s t l d) (Rs := fun ds => ∃ r2, ds = [r2] ∧ LedR n as s t l r2) ?_ (ea_cons (Ra := fun d => LedR n as s t l d) ?_ ea_nil fun d ds q1 q2 => ⟨d, by rw [q2], q1⟩) fun d ds q1 ⟨r2, q2, q3⟩ => ⟨d, r2, by rw [q2], q1, q3⟩) fun ds ⟨_, _, q, _⟩ => by rw [q]; exact (show 2 ≤ 1000000 by decide)) fun xs q => ⟨xs, .l, q⟩)) fun items ⟨r1, r2, q, L1, L2'⟩ => ⟨fun j δ => ∃ c7 c8, δ = F c7 c8, ⟨.no, .no, rfl⟩, ?_, ?_⟩)
  · exact ed_call ⟨netD n as, iD s, iD t, .list (l.map PyData.int)⟩ (ea_c (ed_var rfl) (ea_c (ed_var rfl) (ea_c (ed_var rfl) (ea_c (ed_var rfl) ea_nil)))) ⟨ok.sz', VSz.ints (b := true) (by omega)⟩ (badFit_none nt hs ht hne hlo f) fun d q => led_R nt hs ht hlo q
  · exact ed_callR (ds := [intsT l, iD t, iD s, hd]) ⟨hd, iD s, iD t, intsT l⟩ (ea_c (ed_tupleOf rfl (ed_var rfl) .l) (ea_c (ed_var rfl) (ea_c (ed_var rfl) (ea_c (ed_var rfl) ea_nil)))) rfl ⟨hz, VSz.ints (b := false) (by omega)⟩ (badFit_none hn hs ht hne hlt f) fun d q => led_R hn hs ht hlt q
  · intro e1 sb j d δ1 σ1 G3 H3 hd' hP S3
    obtain ⟨c7, c8, rfl⟩ := hP
    have hr : LedR n as s t l d := by
      rw [q] at hd'
      match j, hd' with
      | 0, hd' => cases hd'; exact L1
      | 1, hd' => cases hd'; exact L2'
      | _ + 2, hd' => cases hd'
    refine ⟨_, _, ga_name, fun σ2 G4 H4 S4 => ?_⟩
    have S4 : Sd e1 (F (.d d) c8) G4 H4 σ2 := S4
    refine q_if0 (b := isNone (optD o)) S4 (eb_T (ed_isN (ed_var rfl))) (fun z G5 H5 _ S5 => ?_) fun z G5 H5 _ S5 => ?_
    · rcases led_best ok.wf hs ht hb hr with ⟨_, _, qd⟩ | ⟨l', _, qo, _, _⟩
      · subst qd
        exact q_if0 (b := false) S5 (eb_T (ed_notN (d := .none) (ed_var rfl))) (fun z => nomatch z) fun _ G6 H6 _ S6 => ⟨_, G6, ⟨_, _, rfl⟩, S6⟩
      · rw [qo] at z; cases z
    · rcases led_best ok.wf hs ht hb hr with ⟨qo, _, _⟩ | ⟨l', B, qo, kp, qd⟩
      · rw [qo] at z; cases z
      · subst qd
        have hlen' := B.flow.1.len
        refine q_if0 (b := false) S5 (eb_not (a := true) (eb_B (ed_call ⟨n, as, s, t, l'⟩ (ea_c (ed_var rfl) (ea_c (ed_var rfl) (ea_c (ed_var rfl) (ea_c (ed_var (by show some (optD o) = _; rw [qo]; rfl)) (ea_c (ed_var rfl) ea_nil))))) ⟨ok, B⟩ rfl fun d q => q))) (fun z => nomatch z) fun _ G6 H6 _ S6 => ?_
        refine s_forD (items := natsD l.length) S6 (it_range1 (ea_c (ER.is (ed_len rfl (ed_var rfl) .l) (by rw [List.length_map])) ea_nil) (by omega)) (fun j δ => ∃ c8, δ = F (.d (intsT l')) c8) ⟨c8, rfl⟩ (fun e2 sb2 j d δ1 σ1 G7 H7 hd'' hP S7 => ?_) fun δn σn Gn Hn hP _ Sn => ?_
        · obtain ⟨c8, rfl⟩ := hP
          obtain ⟨hj, rfl⟩ := natsD_at hd''
          have ha : as[j]? = some as[j] := List.getElem?_eq_getElem (by omega)
          have hx : l[j]? = some l[j] := List.getElem?_eq_getElem hj
          have hy : l'[j]? = some (l'[j]'(by omega)) := List.getElem?_eq_getElem (by omega)
          generalize as[j] = a at ha
          generalize l[j] = x at hx
          generalize l'[j]'(by omega) = y at hy
          refine ⟨_, _, ga_name, fun σ3 G8 H8 S8 => ?_⟩
          refine s_ifB (b := (decide (a.tl = s) || decide (a.hd = t)) && decide (y < x)) S8 (eb_and (eb_or (eb_T (ER.is (ed_eqD (eg 0 rfl rfl ha rfl) (ed_var rfl) rfl rfl) (by rw [eqv_iD]))) fun _ => eb_T (ER.is (ed_eqD (eg 1 rfl rfl ha rfl) (ed_var rfl) rfl rfl) (by rw [eqv_iD]))) fun _ => eb_T (ed_lt (ed_ix (n := j) (d := .int y) (ed_var rfl) (ed_var rfl) .t (by rw [List.getElem?_map, hy]; rfl)) (ed_ix (n := j) (d := .int x) (ed_var rfl) (ed_var rfl) .l (by rw [List.getElem?_map, hx]; rfl)))) (fun z G9 H9 _ S9 => ?_) fun z G9 H9 _ S9 => ⟨_, G9, ⟨_, rfl⟩, S9⟩
          exfalso
          simp only [Bool.and_eq_true, Bool.or_eq_true, decide_eq_true_eq] at z
          have := kp j a x y ha z.1 hx hy
          omega
        · obtain ⟨c8, rfl⟩ := hP
          exact ⟨_, Gn, ⟨_, _, rfl⟩, Sn⟩
  · intro δn σn Gn Hn hP _ Sn
    obtain ⟨c7, c8, rfl⟩ := hP
    -- whether the flow was a greatest one
    have ew : ∀ {e2 : Ent} {δ' : Fm}, (δ'[1]?).bind cellD = some (netD n as) → (δ'[3]?).bind cellD = some (iD s) → (δ'[4]?).bind cellD = some (iD t) → (δ'[6]?).bind cellD = some (.list (l.map PyData.int)) → ER e2 (tOp (fun x y H Q => y = .non ∧ Q (.bl (decide (x = .non))) H) (tCall (sp_walk C) [] E0 (tCons (tVar 1) (tCons (tVar 6) (tCons (tVar 3) (tCons (tTup (tCons (tVar 4) tNil)) tNil))))) (tC .non)) δ' fun d => ∃ b, d = .bool b ∧ (b = true ↔ ¬ FM.Reach as l s t) := fun {e2 δ'} h1 h3 h4 h6 => er_op (Ra := fun d => isNone d = true ↔ ¬ FM.Reach as l s t) (Rb := fun d => d = .none) (ed_call (⟨netD n as, n, as, true, l, s, t⟩, false) (ea_c (ed_var h1) (ea_c (ed_var h6) (ea_c (ed_var h3) (ea_c (ed_tup (ea_c (ed_var h4) ea_nil) (show 1 ≤ 1000000 by decide)) ea_nil)))) ⟨ok.sz', nt, hs, ht, hne, f.1⟩ rfl fun d q => q) ed_non fun da db g1 g2 => by
      subst g2
      exact fun G H x y Q _ hx hy k => by
        cases hy
        refine ⟨rfl, k _ _ ⟨isNone da, rfl, g1⟩ ?_⟩
        rw [isNone_v hx]; exact .bl _
    have fin : ∀ hm σ G H, (hm = true ↔ ¬ FM.Reach as l s t) → Sd e [.b bx, Cell.p v1 (netD n as), Cell.p v2 hd, Cell.p v3 (iD s), Cell.p v4 (iD t), Cell.p v5 (optD o), .d (.list (l.map PyData.int)), c7, c8, .d (.bool hm)] G H σ →
        tRet (tOp (rEqD K) (tOp (fun x y H Q => y = .non ∧ Q (.bl (decide (x = .non))) H) (tCall (sp_walk C) [] E0 (tCons (tVar 1) (tCons (tVar 6) (tCons (tVar 3) (tCons (tTup (tCons (tVar 4) tNil)) tNil))))) (tC .non)) (tVar 9)) { nx := fun _ H' => Q .non H', rt := Q } σ H := fun hm σ G H hq S => by
      refine s_outB (Ra := fun d => d = .bool true) S rfl (er_op (ew rfl rfl rfl rfl) (Rb := fun d => d = .bool hm) (ed_var rfl) fun da db ⟨b, g1, g2⟩ g3 => ?_) i.rt fun d q => q
      subst g1 g3
      have : b = hm := by rw [Bool.eq_iff_iff, g2, hq]
      subst this
      exact fun G H x y Q s hx hy k => ov_eqD rfl rfl G H x y Q s hx hy fun d v q => k d v (by rw [q, eqv_bool]; simp)
    dsimp only
    rcases led_best ok.wf hs ht hb L1 with ⟨qo, fr, _⟩ | ⟨l', B, qo, _, _⟩
    · subst qo
      refine q_set (d := .bool false) Sn (ER.is (ed_andV (a := false) (b := true) (ed_notN (d := .none) (ed_var rfl)) fun z => nomatch z) rfl) fun w2 G2 H2 _ _ S2 => fin false _ G2 H2 ⟨fun z => (nomatch z), fun z => absurd (fr.reach hlen) z⟩ S2
    · subst qo
      refine q_set (i := 9) (d := .bool (decide (FM.sur as l t = FM.sur as l' t))) Sn ?_ fun w2 G2 H2 _ _ S2 => fin (decide (FM.sur as l t = FM.sur as l' t)) _ G2 H2 ?_ S2
      · refine ER.is (ed_andV (a := true) (b := decide (FM.sur as l t = FM.sur as l' t)) (ed_notN (d := .int (FM.sur as l' t)) (ed_var rfl)) fun _ => ?_) rfl
        refine ER.is (ed_eqD (da := .int (FM.sur as l t)) (db := .int (FM.sur as l' t)) ?_ (ed_var rfl) rfl rfl) (by rw [eqv_int])
        exact ed_call ⟨netD n as, n, as, true, l, s, t⟩ (ea_c (ed_var rfl) (ea_c (ed_var rfl) (ea_c (ed_var rfl) (ea_c (ed_var rfl) ea_nil)))) ⟨ok.sz', nt, hs, ht, hne, f⟩ rfl fun d q => q
      · rw [decide_eq_true_eq]
        exact (B.walk f).symm
end
end DL
namespace DL
open PySem L2
section
variable {K : PySem.W.Frag} {C : Addr} {E E' : XK} {vs : List V} {H : Hp} {Q : VK} {σ : L2.St} {ta tb : TE} {i j : Int} {r : TA}
/-- a reading that answers v, the heap as it was -/
def Pv (t : TE) (σ : L2.St) (H : Hp) (v : V) : Prop := ∀ Q : VK, Q v H → t σ H Q
theorem pv_c {v : V} : Pv (tC v) σ H v := fun _ q => q
theorem pv_v {k : Nat} {v : V} (h : σ[k]? = some (some v)) : Pv (tVar k) σ H v := fun _ q => ⟨v, h, q⟩
theorem pv_o {g : Int → Int → V} (a : Pv ta σ H (.int i)) (b : Pv tb σ H (.int j)) : Pv (tOp (rI0 g) ta tb) σ H (g i j) := fun _ q => a _ (b _ ⟨i, j, rfl, rfl, q⟩)
theorem pv_oC {D : Int → Int → Prop} {g : Int → Int → V} (a : Pv ta σ H (.int i)) (b : Pv tb σ H (.int j)) (h : D i j) : Pv (tOp (rI D g) ta tb) σ H (g i j) := fun _ q => a _ (b _ ⟨i, j, rfl, rfl, h, q⟩)
theorem pv_1 {f : List V → Hp → VK → Prop} {v u : V} (a : Pv ta σ H v) (h : ∀ Q : VK, Q u H → f [v] H Q) : Pv (tCB f (tCons ta tNil)) σ H u := fun _ q => a _ (h _ q)
theorem pv_abs (a : Pv ta σ H (.int i)) : Pv (tCB rAbs (tCons ta tNil)) σ H (.int (if i < 0 then -i else i)) := pv_1 a fun _ q => ⟨i, rfl, q⟩
theorem pv_int (a : Pv ta σ H (.int i)) : Pv (tCB rInt (tCons ta tNil)) σ H (.int i) := pv_1 a fun _ q => .inl ⟨i, rfl, q⟩
theorem pv_len {p : Addr} {ys : List V} (a : Pv ta σ H (.ref p)) (h : SqL K H p ys) : Pv (tCB (rLen K) (tCons ta tNil)) σ H (.int ys.length) := pv_1 a fun _ q => ⟨p, ys, rfl, .inl h, q⟩
theorem pv_ix {p : Addr} {ys : List V} {v : V} (a : Pv ta σ H (.ref p)) (b : Pv tb σ H (.int j)) (h : SqL K H p ys) (e : atI ys j = some v) : Pv (tOp (rIx K) ta tb) σ H v := fun _ q => a _ (b _ (.inl ⟨p, ys, j, v, rfl, rfl, h, e, q⟩))
theorem atI_int {ns : List Int} {k : Nat} (h : k < ns.length) : ∃ x : Int, atI (ns.map V.int) (k : Int) = some (.int x) := by
  exact ⟨ns[k], atI_nat (by rw [List.getElem?_map, List.getElem?_eq_getElem h]; rfl)⟩
theorem pvs_ret {D : Ends} {v : V} {Q : VK} (a : Pv ta σ H v) (q : D.rt v H) : tRet ta D σ H := a _ q
theorem pvs_asg {D : Ends} {v : V} {k : Nat} (a : Pv ta σ H v) (q : D.nx (σ.set k (some v)) H) : tAsg ta (gName k) D σ H := a _ q
theorem pvs_seq {D : Ends} {t u : TS} (q : t { D with nx := u D } σ H) : tSeq t u D σ H := q
theorem pvs_if {D : Ends} {t u : TS} {b : Bool} (a : Pv ta σ H (.bl b)) (q1 : b = true → t D σ H) (q2 : b = false → u D σ H) : tIfS (tTest ta) t u D σ H := a _ ⟨b, rfl, by cases b <;> simp_all⟩
theorem pv_if {b : Bool} {v u : V} {tc : TE} (a : Pv tc σ H (.bl b)) (x : Pv ta σ H v) (y : Pv tb σ H u) : Pv (tIf (tTest tc) ta tb) σ H (if b = true then v else u) := fun Q q => a _ ⟨b, rfl, by
  cases b with
  | true => exact x _ q
  | false => exact y _ q⟩
theorem pvl_ret {D : Ends} {v u : V} (x : Pv ta σ H v) (y : Pv tb σ H u) (q : ∀ p, H p = none → D.rt (.ref p) (upd H p (.lst [v, u]))) : tRet (tLst (tCons ta (tCons tb tNil))) D σ H := x _ (y _ ⟨by show 2 ≤ _; rw [PySem.sizeLine_eq]; decide, q⟩)
/-- the last part of the reading -/
def t_law_box_end (K : PySem.W.Frag) : TS := (tSeq (tAsg (tIf (tTest (tOp (rI0 fun i j => .bl (decide (j ≤ i))) (tVar 2) (tOp (rI CPow fun i j => .int (i ^ j.toNat)) (tC (.int 10)) (tC (.int 18))))) (tVar 2) (tC (.int 0))) (gName 3))
      (tRet (tLst (tCons (tVar 3) (tCons (tOp (rI0 fun i j => .int (i + j)) (tOp (rI (fun _ j => 0 < j) fun i j => .int (i % j)) (tCB rInt (tCons (tOp (rI0 fun i j => .int (i + j)) (tOp (rI CMul fun i j => .int (i * j)) (tOp (rI (fun _ j => 0 < j) fun i j => .int (i % j)) (tCB rInt (tCons (tVar 2) tNil)) (tC (.int 2147483563))) (tC (.int 58151))) (tOp (rI CMul fun i j => .int (i * j)) (tC (.int 811)) (tVar 1))) tNil)) (tC (.int 2147483563))) (tC (.int 1))) tNil)))))
theorem pu_law_box (h : sp_law_box K C vs H Q E) : t_law_box K C E' { nx := fun _ H' => Q .non H', rt := Q } (L2.start ["_law_script", "_law_k", "_law_cell", "_law_great"] vs) H := by
  obtain ⟨a, ns, k, rfl, hS, hk, hq⟩ := h
  have hl : ((ns.map V.int).length : Int) = ns.length := by simp
  unfold t_law_box
  refine pvs_seq (pvs_asg (pv_o (pv_oC pv_c (pv_v (v := .int k) (by rfl)) (by exact Or.inl (by decide))) pv_c) ?_)
  have fin : ∀ c : Int, (t_law_box_end K) { nx := fun _ H' => Q .non H', rt := Q } [some (.ref a), some (.int k), some (.int c), none] H := by
    intro c
    have g : ∃ g : Int, (if decide ((10 : Int) ^ (18 : Int).toNat ≤ c) = true then V.int c else V.int 0) = .int g := by
      by_cases h : decide ((10 : Int) ^ (18 : Int).toNat ≤ c) = true
      · rw [if_pos h]; exact ⟨_, rfl⟩
      · rw [if_neg h]; exact ⟨_, rfl⟩
    obtain ⟨g, eg⟩ := g
    refine pvs_seq (pvs_asg (v := .int g) (eg ▸ pv_if (pv_o (pv_v (v := .int c) (by rfl)) (pv_oC pv_c pv_c (by exact ⟨by decide, by decide, by decide⟩))) (pv_v (by rfl)) pv_c) ?_)
    dsimp only [List.set]
    refine pvl_ret (v := .int g) (pv_v (by rfl)) (pv_o (pv_oC (pv_int (pv_o (pv_oC (pv_oC (pv_int (pv_v (v := .int c) (by rfl))) pv_c (by decide)) pv_c (by exact Or.inr (by decide))) (pv_oC pv_c (pv_v (v := .int k) (by rfl)) (by exact Or.inl (by decide))))) pv_c (by decide)) pv_c) fun p np => ?_
    refine hq p _ _ _ (fun b o e => ?_) np upd_same fun b nb e => ?_
    · rw [upd_ne (ne_of_none e np)]; exact e
    · rw [upd_ne nb]; exact e
  dsimp only [List.set, L2.start]
  refine pvs_seq (pvs_if (pv_o (pv_v (v := .int k) (by rfl)) (pv_len (pv_v (v := .ref a) (by rfl)) hS)) (fun h1 => ?_) fun h1 => ?_)
  · have h1 : (k : Int) < ((ns.map V.int).length : Int) := of_decide_eq_true h1
    obtain ⟨x, ex⟩ := atI_int (ns := ns) (k := k) (by omega)
    exact pvs_asg (pv_abs (pv_int (pv_ix (pv_v (v := .ref a) (by rfl)) (pv_v (v := .int k) (by rfl)) hS ex))) (fin _)
  · refine pvs_if (pv_o (pv_len (pv_v (v := .ref a) (by rfl)) hS) pv_c) (fun h2 => ?_) fun h2 => fin _
    have h2 : (0 : Int) < ((ns.map V.int).length : Int) := of_decide_eq_true h2
    obtain ⟨x, ex⟩ := atI_int (ns := ns) (k := k % ns.length) (Nat.mod_lt _ (by omega))
    have ex : atI (ns.map V.int) ((k : Int) % ((ns.map V.int).length : Int)) = some (.int x) := by rw [hl]; exact ex
    exact pvs_asg (pv_o (pv_v (by rfl)) (pv_oC (pv_oC (pv_int (pv_abs (pv_int (pv_ix (pv_v (v := .ref a) (by rfl)) (pv_oC (pv_int (pv_v (v := .int k) (by rfl))) (pv_len (pv_v (v := .ref a) (by rfl)) hS) h2) hS ex)))) pv_c (by decide)) pv_c (by exact Or.inr (by decide)))) (fin _)
end
end DL
/-! repr of data -/
namespace DL
open PySem PySem.Spec PyProof.Rows L2
structure Shw (d : PyData) : Prop where
  sh : d.showable = true
  nd : d.hasDict = false
  dp : d.depth ≤ 16
  sz : d.shown.length ≤ sizeLine
def rRepr : List V → Hp → VK → Prop := fun xs H Q => ∃ v d, xs = [v] ∧ Dg H v d ∧ Shw d ∧ Q (.str d.shown) H
mutual
theorem Dg.reads {P : Program} {w : World} {H : Hp} {h : Heap} (hok : HOk P w H h) : ∀ {v : V} {d : PyData} {u : Value}, Dg H v d → RelV v u → d.hasDict = false → ∃ as, Reads h u d as
  | _, _, _, .non, r, _ => by cases r; exact ⟨_, .none⟩
  | _, _, _, .bl b, r, _ => by cases r; exact ⟨_, .bool b⟩
  | _, _, _, .int i, r, _ => by obtain ⟨t, rfl⟩ := r; exact ⟨_, .int i t⟩
  | _, _, _, .str x, r, _ => by obtain ⟨t, rfl⟩ := r; exact ⟨_, .str x t⟩
  | _, .list ds, _, .lst (a := a) (xs := xs) e q, r, nd => by
    cases r
    obtain ⟨z, its, n, rv, e1⟩ := hok _ _ e
    obtain ⟨as, z⟩ := DgAll.reads hok q rv (by simpa [PyData.hasDict] using nd)
    exact ⟨_, .list e1 rfl rfl (by simpa using z)⟩
  | _, .tuple ds, _, .tup (a := a) (xs := xs) e q, r, nd => by
    cases r
    obtain ⟨z, its, rv, o, e1, e2, n, e3⟩ := hok _ _ e
    obtain ⟨as, z⟩ := DgAll.reads hok q rv (by simpa [PyData.hasDict] using nd)
    exact ⟨_, .tuple e1 e2 e3 (by simpa using z)⟩
  | _, .dict kvs, _, .dic e q, r, nd => by simp [PyData.hasDict] at nd
theorem DgAll.reads {P : Program} {w : World} {H : Hp} {h : Heap} (hok : HOk P w H h) : ∀ {vs : List V} {ds : List PyData} {us : List Value}, DgAll H vs ds → Vals vs us → PyData.hasDictAll ds = false → ∃ as, ReadsAll h us ds as
  | _, _, _, .nil, r, _ => by cases r; exact ⟨_, .nil⟩
  | _, _, _, .cons q qs, r, nd => by
    cases r with
    | cons r rs =>
      have nd := nd
      simp only [PyData.hasDictAll, Bool.or_eq_false_iff] at nd
      obtain ⟨as, z⟩ := Dg.reads hok q r nd.1
      obtain ⟨bs, zs⟩ := DgAll.reads hok qs rs nd.2
      exact ⟨_, .cons z zs⟩
end
theorem call_repr {X : Cx} (hg : X.A.guards = some []) (hu : X.A.units + 64 < cLine) : CallR X (.builtin "repr") rRepr := by
  intro pins s σ H xs us Q I r
  intro h
  obtain ⟨v, d, rfl, hd, sh, q⟩ := h
  obtain ⟨u, rfl, t⟩ := vals1 r
  cases hd with
  | non => cases t; exact PySem.P.repr_of_none ⟨.str _, H, I.tok _, ⟨_, rfl⟩, q⟩
  | bl b => cases t; exact PySem.P.repr_of_bool ⟨.str _, H, I.tok _, ⟨_, rfl⟩, q⟩
  | int i => obtain ⟨t, rfl⟩ := t; exact PySem.P.repr_of_int (by simpa [PyData.showable] using sh.sh) ⟨.str _, H, I.tok _, ⟨_, rfl⟩, q⟩
  | str x => obtain ⟨t, rfl⟩ := t; exact PySem.P.repr_of_str ⟨.str _, H, I.tok _, ⟨_, rfl⟩, q⟩ sh.sz
  | lst e z =>
    obtain ⟨as, rd⟩ := Dg.reads I.hok (.lst e z) t sh.nd
    cases t
    exact repr_of_reads' rd sh.sh (PyData.noDict_hsm sh.nd) hg (by have := sh.dp; omega) (fun _ _ e => e) (fun h' u tk hk => ⟨.str _, H, I.kept hk, ⟨_, rfl⟩, q⟩) sh.sz
  | tup e z =>
    obtain ⟨as, rd⟩ := Dg.reads I.hok (.tup e z) t sh.nd
    cases t
    exact repr_of_reads' rd sh.sh (PyData.noDict_hsm sh.nd) hg (by have := sh.dp; omega) (fun _ _ e => e) (fun h' u tk hk => ⟨.str _, H, I.kept hk, ⟨_, rfl⟩, q⟩) sh.sz
  | dic e z => exact absurd sh.nd (by simp [PyData.hasDict])
end DL
/-! defs that show values: their promise, where no value is being shown -/
namespace DL
open PySem PySem.Spec PyProof.Rows L2
structure FnG (P : Program) (w : World) (K : PySem.W.Frag) (mg : Str → Option Value) (base : Heap) (CX : CXT) (k : Nat) (f : Addr) (fd : FuncData) (ps : List Str) (sp : Sp) : Prop where
  len : ∀ (as : List V) (H : Hp) (Q : VK) (E : XK), sp as H Q E → as.length = ps.length
  run : ∀ (A : Around) (outer : List Env) (s : Shared) (H : Hp) (args : Args) (us : List Value) (vs : List V) (Q : VK) (E : XK), A.guards = some [] → Room k A → Env0 P w K mg base A outer s H → BindsTo s fd args (ps.zip us) → Vals vs us → sp vs H Q E → codeAny (model P w) A (.call (.ref f) args) (CR CX outer P w H s Q E) s
section
variable {X : Cx} {CX : CXT} {k : Nat} {f : Addr} {fd : FuncData} {ps : List Str} {sp : Sp} {E : XK} {x : Str} {p pos : Pos} {e : Expr} {es : List Expr} {t : TA}
/-- behind a call, in the caller's own context -/
theorem came_back {g : Value} {as : Args} {pins : List (Addr × Obj)} {σ : L2.St} {H : Hp} {s : Shared} {Q : VK} (hx : Passes CX X E) (I : Inv X pins σ H s) (c : codeAny (model X.prog X.w) X.A (.call g as) (CR CX X.stack X.prog X.w H s Q E) s) : wpAny (model X.prog X.w) X.A (call g as.pos as.kw) (EP X pins σ Q) X.xe s :=
  wpAny_call (codeAny_mono c fun r s2 q => match r, q with
    | .error y, q => hx pins σ H s y s2 I q
    | .ok (.ret _), q => I.after q
    | .ok .next, q => False.elim q
    | .ok .brk, q => False.elim q
    | .ok .cont, q => False.elim q)
theorem run_fnG {pins : List (Addr × Obj)} {σ : L2.St} {H : Hp} {s : Shared} {Q : VK} {us : List Value} {vs : List V} (F : FnG X.prog X.w X.K X.mg X.base CX k f fd ps sp) (hG : X.A.guards = some []) (hr : Room k X.A) (hb : Binds X.K fd ps []) (hx : Passes CX X E)
    (I : Inv X pins σ H s) (r : Vals vs us) (h : sp vs H Q E) : wpAny (model X.prog X.w) X.A (call (.ref f) us) (EP X pins σ Q) X.xe s :=
  came_back (as := ⟨us, []⟩) hx I (F.run X.A X.stack s H _ us vs Q E hG hr I.env0 (by simpa using hb s us I.kIn (by simpa using r.length.symm.trans (F.len _ _ _ _ h))) r h)
theorem pe_callG (F : FnG X.prog X.w X.K X.mg X.base CX k f fd ps sp) (hG : X.A.guards = some []) (hr : Room k X.A) (hg : Gl X x) (hm : X.mg x = some (.ref f)) (hk : PySem.W.keepIn X.K (.ref f) = true) (hb : Binds X.K fd ps []) (hx : Passes CX X E)
    (ha : PA X (e :: es) t)
    (he : starEach (e :: es) X.env = (false, eval e X.env) :: starEach es X.env := by rfl) (hdb : (x == ("__debug__" : Str)) = false := by decide) (hpl : (backTo pos (starEach es X.env)).any (·.1) = false := by rfl) :
    PE X (.Call (.Name x p) (e :: es) [] pos) (tCall sp [] E t) :=
  ⟨fun pins s σ H Q I h => wpAny_Call_Name_kw (ld_glob I hg hm (PySem.W.callWith_K (h₀ := X.base) I.ok.mod.kin hk (thn (ha.run pos pins s σ H _ I h) fun us s1 ⟨vs, H1, I1, r, q⟩ => ⟨I1.kIn, run_fnG F hG hr hb hx I1 r (List.append_nil vs ▸ q)⟩) he hpl) hdb)⟩
end
section
variable {K : PySem.W.Frag} {P : Program} {w : World} {base : Heap} {mg : Str → Option Value}
theorem Fun.okG {x qual : Str} {st : Stmt} {f : Addr} {fd : FuncData} {N ps : List Str} {k : Nat} {sp : Sp} (F : L2.Fun K x qual st f fd) (S : FnScope N ps (defScope st)) (len : ∀ vs H Q E, sp vs H Q E → vs.length = ps.length)
    (hbody : ∀ (cdv : Value) (A : Around) (outer : List Env) (s : Shared) (H : Hp) (vs : List V) (Q : VK) (E : XK), A.guards = some [] → Room k (A.deeper (envOfC qual (defScope st) s.heap.objs.size f cdv)) → sp vs H Q E →
      ∃ t, PSs (cxOf (L2.CX P w) P w K mg base N qual (defScope st) f cdv A outer s H E) (defBody st) t ∧ t { nx := fun _ H' => Q .non H', rt := Q } (L2.start N vs) H) : FnG P w K mg base (L2.CX P w) (k + 1) f fd ps sp := by
  obtain ⟨oc, od, kV, doc, pm, an, cdv, ct, sl, rfl, lk, hcd⟩ := F.ex
  exact ⟨len, fun A outer s H args us vs Q E hG hr e0 hb r hsp => LamX.run_ofS lk hcd S hr e0 hb r (len _ _ _ _ hsp) fun hr' => hbody cdv A outer s H vs Q E hG hr' hsp⟩
end
end DL
/-! printed by gen.py: scopes, readings, derivations -/
namespace DL
open PySem PySem.Spec PyProof.Rows L2
section
variable {w : World} {K : PySem.W.Frag} {mg : Str → Option Value} {base : Heap}
abbrev s_law_cuts_right : Stmt := topS 57
theorem sc_law_cuts_right : FnScope ["_law_net_here", "_law_handed", "_law_start_here", "_law_goal", "_law_lots_here", "_law_best_here", "_law_told", "_law_some", "_law_least", "_law_great", "_law_one", "_law_node", "_law_lot"] ["_law_net_here", "_law_handed", "_law_start_here", "_law_goal", "_law_lots_here", "_law_best_here"] (defScope s_law_cuts_right) := ⟨rfl, rfl, rfl, by decide +kernel, rfl, by decide +kernel, by decide +kernel⟩
def t_law_cuts_right (K : PySem.W.Frag) (C : Addr) (E : XK) : TS :=
    (tSeq (tAsg (tLst (tCons (tCall (sp_cuts C) [] E0 (tCons (tVar 0) (tCons (tVar 2) (tCons (tVar 3) tNil)))) (tCons (tCallR (sp_cuts C) E0 (tCons (tVar 3) (tCons (tVar 2) (tCons (tVar 1) tNil)))) tNil))) (gName 6))
    (tSeq (tIfS (tTest (tOp (fun x y H Q => y = .non ∧ Q (.bl (decide (x = .non))) H) (tVar 5) (tC .non))) (tRet (tOp (rEq) (tCB rRepr (tCons (tVar 6) tNil)) (tCB rRepr (tCons (tLst (tCons (tC .non) (tCons (tC .non) tNil))) tNil)))) tNext)
    (tSeq (tAsg (tLc (iSeq K (tVar 4)) (gName 10) (tTest (tOp (rEqD K) (tOp (rIx K) (tVar 10) (tC (.int 0))) (tVar 5))) (tOp (rIx K) (tVar 10) (tC (.int 1))) [10]) (gName 7))
    (tSeq (tAsg (tCB (rTupOf K) (tCons (tLc (iRng1 (tCons (tOp (rIx K) (tVar 0) (tC (.int 0))) tNil)) (gName 11) (tTest (tOp (rEqD K) (tLc (iSeq K (tVar 7)) (gName 12) (tTest (tOp (rIn K true) (tVar 11) (tVar 12))) (tVar 12) [12]) (tLst tNil))) (tVar 11) [11]) tNil)) (gName 8))
    (tSeq (tAsg (tCB (rTupOf K) (tCons (tLc (iRng1 (tCons (tOp (rIx K) (tVar 0) (tC (.int 0))) tNil)) (gName 11) (tTest (tOp (rNeD K) (tLc (iSeq K (tVar 7)) (gName 12) (tTest (tOp (rIn K false) (tVar 11) (tVar 12))) (tVar 12) [12]) (tLst tNil))) (tVar 11) [11]) tNil)) (gName 9))
    (tSeq (tIfS (tTest (tOp (rNe) (tCB rRepr (tCons (tVar 6) tNil)) (tCB rRepr (tCons (tOp rRep (tLst (tCons (tTup (tCons (tVar 8) (tCons (tVar 9) tNil))) tNil)) (tC (.int 2))) tNil)))) (tRet (tC (.bl false))) tNext)
    (tRet (tOp (rEqD K) (tLst (tCons (tCall (sp_cut_worth C) [] E0 (tCons (tVar 0) (tCons (tVar 8) tNil))) (tCons (tCall (sp_cut_worth C) [] E0 (tCons (tVar 0) (tCons (tVar 9) tNil))) tNil))) (tLst (tCons (tVar 5) (tCons (tVar 5) tNil)))))))))))
theorem d_law_cuts_right (T : Txt K mg) (G_cut_worth : FnOk PG w K mg base (L2.CX PG w) 6 T.f_cut_worth.f T.f_cut_worth.fd ["net", "lot"] (sp_cut_worth T.C)) (G_cuts : FnOk PG w K mg base (L2.CX PG w) 10 T.f_cuts.f T.f_cuts.fd ["net", "start", "goal"] (sp_cuts T.C)) (f : Addr) (cdv : Value) (A : Around) (outer : List Env) (s : Shared) (H : Hp) (E : XK) (hG : A.guards = some []) (hr : Room 10 (A.deeper (envOfC "_law_cuts_right" (defScope s_law_cuts_right) s.heap.objs.size f cdv))) :
    PSs (cxOf (L2.CX PG w) PG w K mg base ["_law_net_here", "_law_handed", "_law_start_here", "_law_goal", "_law_lots_here", "_law_best_here", "_law_told", "_law_some", "_law_least", "_law_great", "_law_one", "_law_node", "_law_lot"] "_law_cuts_right" (defScope s_law_cuts_right) f cdv A outer s H E).nox (defBody s_law_cuts_right) (t_law_cuts_right K T.C E) :=
    (pss_cons (ps_set (i := 6) sc_law_cuts_right.nd rfl (Or.inl rfl) (pe_lst (pa_cons (pe_call G_cuts (hr.mono (by decide)) rfl T.f_cuts.g T.f_cuts.F.kp T.f_cuts.b .nil passL (pa_cons (pv 0) (pa_cons (pv 2) (pa_cons (pv 3) pa_nil)))) (pa_cons (pe_callR G_cuts (hr.mono (by decide)) rfl T.f_cuts.g T.f_cuts.F.kp T.kb_cuts passL (pk_cons (pv 3) (pk_cons (pv 2) (pk_cons (pv 1) pk_nil)))) pa_nil))))
      (pss_cons (ps_if (pt_cmpR op_isN (pv 5) pe_non (nomark _)) (pss_one (ps_ret (pe_cmpR op_eq (pe_callB (call_repr hG hr.units) (by rfl) T.mg_repr bt_repr (pa_cons (pv 6) pa_nil)) (pe_callB (call_repr hG hr.units) (by rfl) T.mg_repr bt_repr (pa_cons (pe_lst (pa_cons pe_non (pa_cons pe_non pa_nil))) pa_nil)) (nomark _)))) pss_nil)
      (pss_cons (ps_set (i := 7) sc_law_cuts_right.nd rfl (Or.inr rfl) (pe_lc (own := [("_law_one", 10)]) (g := (gName 10)) (tt := (tTest (tOp (rEqD K) (tOp (rIx K) (tVar 10) (tC (.int 0))) (tVar 5)))) rfl sc_law_cuts_right.nd (pi_seq (pv 4)) (blkOk_by (N := ["_law_net_here", "_law_handed", "_law_start_here", "_law_goal", "_law_lots_here", "_law_best_here", "_law_told", "_law_some", "_law_least", "_law_great", "_law_one", "_law_node", "_law_lot"]) (sc := defScope s_law_cuts_right) (by decide +kernel)) (fun _ _ _ _ _ => (pg_name (i := 10) sc_law_cuts_right.nd rfl (by first | exact Or.inl rfl | exact Or.inr rfl))) (fun _ _ _ _ _ => (pts_one (pt_cmpR (op_eqD hr.units) (pe_ix ix_seq (pv 10) pe_int (fun _ _ => rfl)) (pv 5) (nomark _)))) (fun _ _ _ _ _ => (pe_ix ix_seq (pv 10) pe_int (fun _ _ => rfl)))))
      (pss_cons (ps_set (i := 8) sc_law_cuts_right.nd rfl (Or.inl rfl) (pe_callTy call_tuple_of (by rfl) T.mg_tuple bt_tuple (pa_cons (pe_lc (own := [("_law_node", 11)]) (g := (gName 11)) (tt := (tTest (tOp (rEqD K) (tLc (iSeq K (tVar 7)) (gName 12) (tTest (tOp (rIn K true) (tVar 11) (tVar 12))) (tVar 12) [12]) (tLst tNil)))) rfl sc_law_cuts_right.nd (pi_range1 rfl T.mg_range (pa_cons (pe_ix ix_seq (pv 0) pe_int (fun _ _ => rfl)) pa_nil)) (blkOk_by (N := ["_law_net_here", "_law_handed", "_law_start_here", "_law_goal", "_law_lots_here", "_law_best_here", "_law_told", "_law_some", "_law_least", "_law_great", "_law_one", "_law_node", "_law_lot"]) (sc := defScope s_law_cuts_right) (by decide +kernel)) (fun _ _ _ _ _ => (pg_name (i := 11) sc_law_cuts_right.nd rfl (by first | exact Or.inl rfl | exact Or.inr rfl))) (fun _ _ _ _ _ => (pts_one (pt_cmpR (op_eqD hr.units) (pe_lc (own := [("_law_lot", 12)]) (g := (gName 12)) (tt := (tTest (tOp (rIn K true) (tVar 11) (tVar 12)))) rfl sc_law_cuts_right.nd (pi_seq (pv 7)) (blkOk_by (N := ["_law_net_here", "_law_handed", "_law_start_here", "_law_goal", "_law_lots_here", "_law_best_here", "_law_told", "_law_some", "_law_least", "_law_great", "_law_one", "_law_node", "_law_lot"]) (by kernel_rfl)) (fun _ _ _ _ _ => (pg_name (i := 12) sc_law_cuts_right.nd rfl (by first | exact Or.inl rfl | exact Or.inr rfl))) (fun _ _ _ _ _ => (pts_one (pt_cmpR op_notIn_seq (pv 11) (pv 12) (by with_unfolding_all rfl)))) (fun _ _ _ _ _ => (pv 12))) (pe_lst pa_nil) (nomark _)))) (fun _ _ _ _ _ => (pv 11))) pa_nil)))
      (pss_cons (ps_set (i := 9) sc_law_cuts_right.nd rfl (Or.inl rfl) (pe_callTy call_tuple_of (by rfl) T.mg_tuple bt_tuple (pa_cons (pe_lc (own := [("_law_node", 11)]) (g := (gName 11)) (tt := (tTest (tOp (rNeD K) (tLc (iSeq K (tVar 7)) (gName 12) (tTest (tOp (rIn K false) (tVar 11) (tVar 12))) (tVar 12) [12]) (tLst tNil)))) rfl sc_law_cuts_right.nd (pi_range1 rfl T.mg_range (pa_cons (pe_ix ix_seq (pv 0) pe_int (fun _ _ => rfl)) pa_nil)) (blkOk_by (N := ["_law_net_here", "_law_handed", "_law_start_here", "_law_goal", "_law_lots_here", "_law_best_here", "_law_told", "_law_some", "_law_least", "_law_great", "_law_one", "_law_node", "_law_lot"]) (sc := defScope s_law_cuts_right) (by decide +kernel)) (fun _ _ _ _ _ => (pg_name (i := 11) sc_law_cuts_right.nd rfl (by first | exact Or.inl rfl | exact Or.inr rfl))) (fun _ _ _ _ _ => (pts_one (pt_cmpR (op_neD hr.units) (pe_lc (own := [("_law_lot", 12)]) (g := (gName 12)) (tt := (tTest (tOp (rIn K false) (tVar 11) (tVar 12)))) rfl sc_law_cuts_right.nd (pi_seq (pv 7)) (blkOk_by (N := ["_law_net_here", "_law_handed", "_law_start_here", "_law_goal", "_law_lots_here", "_law_best_here", "_law_told", "_law_some", "_law_least", "_law_great", "_law_one", "_law_node", "_law_lot"]) (by kernel_rfl)) (fun _ _ _ _ _ => (pg_name (i := 12) sc_law_cuts_right.nd rfl (by first | exact Or.inl rfl | exact Or.inr rfl))) (fun _ _ _ _ _ => (pts_one (pt_cmpR op_in_seq (pv 11) (pv 12) (by with_unfolding_all rfl)))) (fun _ _ _ _ _ => (pv 12))) (pe_lst pa_nil) (nomark _)))) (fun _ _ _ _ _ => (pv 11))) pa_nil)))
      (pss_cons (ps_if (pt_cmpR op_ne (pe_callB (call_repr hG hr.units) (by rfl) T.mg_repr bt_repr (pa_cons (pv 6) pa_nil)) (pe_callB (call_repr hG hr.units) (by rfl) T.mg_repr bt_repr (pa_cons (pe_op op_rep (pe_lst (pa_cons (pe_tup (pa_cons (pv 8) (pa_cons (pv 9) pa_nil))) pa_nil)) pe_int) pa_nil)) (nomark _)) (pss_one (ps_ret pe_bl)) pss_nil)
      (pss_one (ps_ret (pe_cmpR (op_eqD hr.units) (pe_lst (pa_cons (pe_call G_cut_worth (hr.mono (by decide)) rfl T.f_cut_worth.g T.f_cut_worth.F.kp T.f_cut_worth.b .nil passL (pa_cons (pv 0) (pa_cons (pv 8) pa_nil))) (pa_cons (pe_call G_cut_worth (hr.mono (by decide)) rfl T.f_cut_worth.g T.f_cut_worth.F.kp T.f_cut_worth.b .nil passL (pa_cons (pv 0) (pa_cons (pv 9) pa_nil))) pa_nil))) (pe_lst (pa_cons (pv 5) (pa_cons (pv 5) pa_nil))) (nomark _))))))))))
abbrev s_law_many_right : Stmt := topS 62
theorem sc_law_many_right : FnScope ["_law_box_here", "_law_net_here", "_law_start_here", "_law_goal", "_law_free", "_law_told", "_law_lot", "_law_least", "_law_great", "_law_arc"] ["_law_box_here"] (defScope s_law_many_right) := ⟨rfl, rfl, rfl, by decide +kernel, rfl, by decide +kernel, by decide +kernel⟩
def t_law_many_right (K : PySem.W.Frag) (C : Addr) (E : XK) : TS :=
    (tSeq (tAsg (tCall (sp_law_net C) [] E0 (tCons (tVar 0) (tCons (tC (.int 24)) (tCons (tC (.int 60)) tNil)))) (gName 1))
    (tSeq (tPar 2 3 (tCons (tC (.int 0)) (tCons (tOp (rI0 fun i j => .int (i - j)) (tOp (rIx K) (tVar 1) (tC (.int 0))) (tC (.int 1))) tNil)))
    (tSeq (tAsg (tTup (tCons (tOp (rIx K) (tVar 1) (tC (.int 0))) (tCons (tLc (iSeq K (tOp (rIx K) (tVar 1) (tC (.int 1)))) (gName 9) (tTest (tOp (fun x y H Q => y = .non ∧ Q (.bl (decide (x = .non))) H) (tOp (rIx K) (tVar 9) (tC (.int 2))) (tC .non))) (tVar 9) [9]) tNil))) (gName 4))
    (tSeq (tAsg (tCall (sp_greatest C) [] E0 (tCons (tVar 1) (tCons (tVar 2) (tCons (tVar 3) tNil)))) (gName 5))
    (tSeq (tIfS (tTest (tOp (rIn K false) (tVar 3) (tCall (sp_law_near C) [] E0 (tCons (tVar 4) (tCons (tOp rRep (tLst (tCons (tC (.int 0)) tNil)) (tCB (rLen K) (tCons (tOp (rIx K) (tVar 4) (tC (.int 1))) tNil))) (tCons (tVar 2) tNil)))))) (tRet (tAndV (tOp (fun x y H Q => y = .non ∧ Q (.bl (decide (x = .non))) H) (tVar 5) (tC .non)) (tOp (fun x y H Q => y = .non ∧ Q (.bl (decide (x = .non))) H) (tCall (sp_cuts C) [] E0 (tCons (tVar 1) (tCons (tVar 2) (tCons (tVar 3) tNil)))) (tC .non)))) tNext)
    (tSeq (tIfS (tNot (tB (tCall (sp_law_is_flow C) [] E0 (tCons (tVar 1) (tCons (tVar 2) (tCons (tVar 3) (tCons (tVar 5) tNil))))))) (tRet (tC (.bl false))) tNext)
    (tSeq (tAsg (tCB (rSortedI K) (tCons (tCall (sp_law_near C) [] E0 (tCons (tVar 1) (tCons (tVar 5) (tCons (tVar 2) tNil)))) tNil)) (gName 6))
    (tSeq (tIfS (tOr (tTest (tOp (rIn K false) (tVar 3) (tVar 6))) (tTest (tOp (rNeD K) (tCall (sp_law_worth C) [] E0 (tCons (tVar 1) (tCons (tVar 6) tNil))) (tCall (sp_law_more C) [] E0 (tCons (tVar 1) (tCons (tVar 5) (tCons (tVar 3) tNil))))))) (tRet (tC (.bl false))) tNext)
    (tSeq (tAsg (tCall (sp_cuts C) [] E0 (tCons (tVar 1) (tCons (tVar 2) (tCons (tVar 3) tNil)))) (gTup K 2 (gCons (gName 7) (gCons (gName 8) gNil))))
    (tRet (tAndV (tOp (rEq) (tCB rRepr (tCons (tVar 7) tNil)) (tCB rRepr (tCons (tCB (rTupOf K) (tCons (tVar 6) tNil)) tNil))) (tAndV (tOp (rEqD K) (tCall (sp_law_worth C) [] E0 (tCons (tVar 1) (tCons (tVar 8) tNil))) (tCall (sp_law_worth C) [] E0 (tCons (tVar 1) (tCons (tVar 6) tNil)))) (tOp (rIn K true) (tVar 3) (tVar 8))))))))))))))
theorem d_law_many_right (T : Txt K mg) (G_greatest : FnOk PG w K mg base (L2.CX PG w) 9 T.f_greatest.f T.f_greatest.fd ["net", "start", "goal"] (sp_greatest T.C)) (G_cuts : FnOk PG w K mg base (L2.CX PG w) 10 T.f_cuts.f T.f_cuts.fd ["net", "start", "goal"] (sp_cuts T.C)) (G_law_net : FnOk PG w K mg base (L2.CX PG w) 3 T.f_law_net.f T.f_law_net.fd ["_law_box_here", "_law_nodes", "_law_most"] (sp_law_net T.C)) (G_law_more : FnOk PG w K mg base (L2.CX PG w) 1 T.f_law_more.f T.f_law_more.fd ["_law_net_here", "_law_load", "_law_node"] (sp_law_more T.C)) (G_law_is_flow : FnOk PG w K mg base (L2.CX PG w) 2 T.f_law_is_flow.f T.f_law_is_flow.fd ["_law_net_here", "_law_start_here", "_law_goal", "_law_value"] (sp_law_is_flow T.C)) (G_law_worth : FnOk PG w K mg base (L2.CX PG w) 1 T.f_law_worth.f T.f_law_worth.fd ["_law_net_here", "_law_lot"] (sp_law_worth T.C)) (G_law_near : FnOk PG w K mg base (L2.CX PG w) 1 T.f_law_near.f T.f_law_near.fd ["_law_net_here", "_law_load", "_law_start_here"] (sp_law_near T.C)) (f : Addr) (cdv : Value) (A : Around) (outer : List Env) (s : Shared) (H : Hp) (E : XK) (hG : A.guards = some []) (hr : Room 10 (A.deeper (envOfC "_law_many_right" (defScope s_law_many_right) s.heap.objs.size f cdv))) :
    PSs (cxOf (L2.CX PG w) PG w K mg base ["_law_box_here", "_law_net_here", "_law_start_here", "_law_goal", "_law_free", "_law_told", "_law_lot", "_law_least", "_law_great", "_law_arc"] "_law_many_right" (defScope s_law_many_right) f cdv A outer s H E).nox (defBody s_law_many_right) (t_law_many_right K T.C E) :=
    (pss_cons (ps_set (i := 1) sc_law_many_right.nd rfl (Or.inl rfl) (pe_call G_law_net (hr.mono (by decide)) rfl T.f_law_net.g T.f_law_net.F.kp T.f_law_net.b .nil passL (pa_cons (pv 0) (pa_cons pe_int (pa_cons pe_int pa_nil)))))
      (pss_cons (ps_par (i := 2) (j := 3) rfl sc_law_many_right.nd rfl rfl (by decide) rfl rfl (pa_cons pe_int (pa_cons (pe_op op_sub (pe_ix ix_seq (pv 1) pe_int (fun _ _ => rfl)) pe_int) pa_nil)) (by rfl))
      (pss_cons (ps_set (i := 4) sc_law_many_right.nd rfl (Or.inl rfl) (pe_tup (pa_cons (pe_ix ix_seq (pv 1) pe_int (fun _ _ => rfl)) (pa_cons (pe_lc (own := [("_law_arc", 9)]) (g := (gName 9)) (tt := (tTest (tOp (fun x y H Q => y = .non ∧ Q (.bl (decide (x = .non))) H) (tOp (rIx K) (tVar 9) (tC (.int 2))) (tC .non)))) rfl sc_law_many_right.nd (pi_seq (pe_ix ix_seq (pv 1) pe_int (fun _ _ => rfl))) (blkOk_by (N := ["_law_box_here", "_law_net_here", "_law_start_here", "_law_goal", "_law_free", "_law_told", "_law_lot", "_law_least", "_law_great", "_law_arc"]) (sc := defScope s_law_many_right) (by decide +kernel)) (fun _ _ _ _ _ => (pg_name (i := 9) sc_law_many_right.nd rfl (by first | exact Or.inl rfl | exact Or.inr rfl))) (fun _ _ _ _ _ => (pts_one (pt_cmpR op_isN (pe_ix ix_seq (pv 9) pe_int (fun _ _ => rfl)) pe_non (nomark _)))) (fun _ _ _ _ _ => (pv 9))) pa_nil))))
      (pss_cons (ps_set (i := 5) sc_law_many_right.nd rfl (Or.inl rfl) (pe_call G_greatest (hr.mono (by decide)) rfl T.f_greatest.g T.f_greatest.F.kp T.f_greatest.b .nil passL (pa_cons (pv 1) (pa_cons (pv 2) (pa_cons (pv 3) pa_nil)))))
      (pss_cons (ps_if (pt_cmpR op_in_seq (pv 3) (pe_call G_law_near (hr.mono (by decide)) rfl T.f_law_near.g T.f_law_near.F.kp T.f_law_near.b .nil passL (pa_cons (pv 4) (pa_cons (pe_op op_rep (pe_lst (pa_cons pe_int pa_nil)) (pe_callB call_len_seq (by rfl) T.mg_len bt_len (pa_cons (pe_ix ix_seq (pv 4) pe_int (fun _ _ => rfl)) pa_nil))) (pa_cons (pv 2) pa_nil)))) (by with_unfolding_all rfl)) (pss_one (ps_ret (pe_and (pe_cmpR op_isN (pv 5) pe_non (nomark _)) (pe_one (pe_cmpR op_isN (pe_call G_cuts (hr.mono (by decide)) rfl T.f_cuts.g T.f_cuts.F.kp T.f_cuts.b .nil passL (pa_cons (pv 1) (pa_cons (pv 2) (pa_cons (pv 3) pa_nil)))) pe_non (nomark _)))))) pss_nil)
      (pss_cons (ps_if (pt_not (pt_val (pe_call G_law_is_flow (hr.mono (by decide)) rfl T.f_law_is_flow.g T.f_law_is_flow.F.kp T.f_law_is_flow.b .nil passL (pa_cons (pv 1) (pa_cons (pv 2) (pa_cons (pv 3) (pa_cons (pv 5) pa_nil))))))) (pss_one (ps_ret pe_bl)) pss_nil)
      (pss_cons (ps_set (i := 6) sc_law_many_right.nd rfl (Or.inl rfl) (pe_callB cr_sortedI (by rfl) T.mg_sorted bt_sorted (pa_cons (pe_call G_law_near (hr.mono (by decide)) rfl T.f_law_near.g T.f_law_near.F.kp T.f_law_near.b .nil passL (pa_cons (pv 1) (pa_cons (pv 5) (pa_cons (pv 2) pa_nil)))) pa_nil)))
      (pss_cons (ps_if (PW.pt (pw_or (pt_cmpR op_in_seq (pv 3) (pv 6) (by with_unfolding_all rfl)) (pw_or1 (pt_cmpR (op_neD hr.units) (pe_call G_law_worth (hr.mono (by decide)) rfl T.f_law_worth.g T.f_law_worth.F.kp T.f_law_worth.b .nil passL (pa_cons (pv 1) (pa_cons (pv 6) pa_nil))) (pe_call G_law_more (hr.mono (by decide)) rfl T.f_law_more.g T.f_law_more.F.kp T.f_law_more.b .nil passL (pa_cons (pv 1) (pa_cons (pv 5) (pa_cons (pv 3) pa_nil)))) (nomark _))))) (pss_one (ps_ret pe_bl)) pss_nil)
      (pss_cons (ps_asg (pe_call G_cuts (hr.mono (by decide)) rfl T.f_cuts.g T.f_cuts.F.kp T.f_cuts.b .nil passL (pa_cons (pv 1) (pa_cons (pv 2) (pa_cons (pv 3) pa_nil)))) (pg_tup rfl (pgs_cons (pg_name (i := 7) sc_law_many_right.nd rfl (Or.inl rfl)) (pgs_cons (pg_name (i := 8) sc_law_many_right.nd rfl (Or.inl rfl)) pgs_nil))))
      (pss_one (ps_ret (pe_and (pe_cmpR op_eq (pe_callB (call_repr hG hr.units) (by rfl) T.mg_repr bt_repr (pa_cons (pv 7) pa_nil)) (pe_callB (call_repr hG hr.units) (by rfl) T.mg_repr bt_repr (pa_cons (pe_callTy call_tuple_of (by rfl) T.mg_tuple bt_tuple (pa_cons (pv 6) pa_nil)) pa_nil)) (nomark _)) (pe_and (pe_cmpR (op_eqD hr.units) (pe_call G_law_worth (hr.mono (by decide)) rfl T.f_law_worth.g T.f_law_worth.F.kp T.f_law_worth.b .nil passL (pa_cons (pv 1) (pa_cons (pv 8) pa_nil))) (pe_call G_law_worth (hr.mono (by decide)) rfl T.f_law_worth.g T.f_law_worth.F.kp T.f_law_worth.b .nil passL (pa_cons (pv 1) (pa_cons (pv 6) pa_nil))) (nomark _)) (pe_one (pe_cmpR op_notIn_seq (pv 3) (pv 8) (by with_unfolding_all rfl))))))))))))))))
end
end DL
namespace DL
open PySem L2
/-- small enough to be shown -/
structure Sm (W D : Nat) (d : PyData) : Prop where
  sh : d.showable = true
  nd : d.hasDict = false
  lf : d.leavesShort 13 = true
  wt : d.weight ≤ W
  dp : d.depth ≤ D
theorem Sm.shw {W D : Nat} {d : PyData} (h : Sm W D d) (hW : W ≤ 2 ^ 20) (hD : D ≤ 16) : Shw d := ⟨h.sh, h.nd, Nat.le_trans h.dp hD, PyData.shown_fits (B := 13) (by decide) (by decide) h.lf (Nat.le_trans h.wt hW)⟩
theorem Sm.mono {W D W' D' : Nat} {d : PyData} (h : Sm W D d) (hW : W ≤ W') (hD : D ≤ D') : Sm W' D' d := ⟨h.sh, h.nd, h.lf, Nat.le_trans h.wt hW, Nat.le_trans h.dp hD⟩
theorem Sm.none : Sm 0 0 .none := ⟨rfl, by simp [PyData.hasDict], rfl, by simp [PyData.weight], by simp [PyData.depth]⟩
theorem Sm.bool (b : Bool) : Sm 0 0 (.bool b) := ⟨rfl, by simp [PyData.hasDict], rfl, by simp [PyData.weight], by simp [PyData.depth]⟩
theorem log2_le64 {m : Nat} (h : m < 10 ^ 12) : m.log2 < 64 := by
  by_cases h0 : m = 0
  · subst h0; simp
  · exact (Nat.log2_lt h0).2 (Nat.lt_of_lt_of_le h (by decide))
theorem Sm.int {i : Int} (h : i.natAbs < 10 ^ 12) : Sm 64 0 (.int i) := by
  have l := log2_le64 h
  refine ⟨?_, by simp [PyData.hasDict], ?_, ?_, by simp [PyData.depth]⟩
  · simp only [PyData.showable, decide_eq_true_eq]; omega
  · simp only [PyData.leavesShort, decide_eq_true_eq]; exact PyData.shown_int_le h
  · simp only [PyData.weight]; split <;> omega
theorem smAll {W D : Nat} : ∀ {xs : List PyData}, (∀ x ∈ xs, Sm W D x) → PyData.showableAll xs = true ∧ PyData.hasDictAll xs = false ∧ PyData.leavesShortAll 13 xs = true ∧ PyData.weightAll xs ≤ xs.length * (W + 1) ∧ PyData.depthAll xs ≤ D
  | [], _ => ⟨rfl, rfl, rfl, by simp [PyData.weightAll], by simp [PyData.depthAll]⟩
  | x :: xs, h => by
    obtain ⟨a1, a2, a3, a4, a5⟩ := h x List.mem_cons_self
    obtain ⟨b1, b2, b3, b4, b5⟩ := smAll fun y hy => h y (List.mem_cons_of_mem _ hy)
    refine ⟨?_, ?_, ?_, ?_, ?_⟩
    · simp only [PyData.showableAll, a1, b1]; rfl
    · simp only [PyData.hasDictAll, a2, b2]; rfl
    · simp only [PyData.leavesShortAll, a3, b3]; rfl
    · simp only [PyData.weightAll, List.length_cons]; rw [Nat.add_mul]; omega
    · simp only [PyData.depthAll]; omega
theorem Sm.list {W D n : Nat} {xs : List PyData} (h : ∀ x ∈ xs, Sm W D x) (hn : xs.length ≤ n) : Sm (n * (W + 1)) (D + 1) (.list xs) := by
  obtain ⟨b1, b2, b3, b4, b5⟩ := smAll h
  refine ⟨by simpa only [PyData.showable], by simpa only [PyData.hasDict], by simpa only [PyData.leavesShort], ?_, ?_⟩
  · simp only [PyData.weight]; exact Nat.le_trans b4 (Nat.mul_le_mul_right _ hn)
  · simp only [PyData.depth]; omega
theorem Sm.tuple {W D n : Nat} {xs : List PyData} (h : ∀ x ∈ xs, Sm W D x) (hn : xs.length ≤ n) : Sm (n * (W + 1)) (D + 1) (.tuple xs) := by
  obtain ⟨b1, b2, b3, b4, b5⟩ := smAll h
  refine ⟨by simpa only [PyData.showable], by simpa only [PyData.hasDict], by simpa only [PyData.leavesShort], ?_, ?_⟩
  · simp only [PyData.weight]; exact Nat.le_trans b4 (Nat.mul_le_mul_right _ hn)
  · simp only [PyData.depth]; omega
theorem Sm.nodes {L : List Nat} {n : Nat} (h : ∀ x ∈ L, x < 10 ^ 12) (hn : L.length ≤ n) : Sm (n * 65) 1 (.tuple (L.map iD)) := by
  refine Sm.tuple (W := 64) (D := 0) (fun x hx => ?_) (by rw [List.length_map]; exact hn)
  obtain ⟨v, hv, rfl⟩ := List.mem_map.mp hx
  exact Sm.int (i := (v : Int)) (by have := h v hv; simpa using this)
theorem DgAll.reps {G : Hp} {vs : List V} {ds : List PyData} (h : DgAll G vs ds) : ∀ n, DgAll G (List.replicate n vs).flatten (List.replicate n ds).flatten
  | 0 => .nil
  | n + 1 => by
    rw [List.replicate_succ, List.replicate_succ]; rw [List.flatten_cons, List.flatten_cons]
    exact h.app (DgAll.reps h n)
section
variable {e : Ent} {δ : Fm} {ta tb : TE} {K : PySem.W.Frag} {d : PyData}
theorem ed_repr (h : ED e ta δ d) (sh : Shw d) : ED e (tCB rRepr (tCons ta tNil)) δ (.str d.shown) :=
  er_cb (ea_c h ea_nil) fun _ q G H vs Q s hv k => by
    subst q
    cases hv with
    | cons h1 h2 =>
      cases h2
      exact ⟨_, d, rfl, h1.up s, sh, k _ _ rfl (.str _)⟩
theorem ed_eqS {x y : Str} (ha : ED e ta δ (.str x)) (hb : ED e tb δ (.str y)) : ED e (tOp rEq ta tb) δ (.bool (decide (x = y))) := ed_op ha hb fun G H v u Q _ hx hy k => by
  cases hx
  cases hy
  refine ⟨rfl, k _ _ ?_ (.bl _)⟩
  congr 1
  rw [decide_eq_decide]; simp
theorem ed_neS {x y : Str} (ha : ED e ta δ (.str x)) (hb : ED e tb δ (.str y)) : ED e (tOp rNe ta tb) δ (.bool (!decide (x = y))) := ed_op ha hb fun G H v u Q _ hx hy k => by
  cases hx
  cases hy
  refine ⟨rfl, k _ _ ?_ (.bl _)⟩
  congr 2
  rw [decide_eq_decide]; simp
theorem ed_rep {xs : List PyData} {n : Nat} (ha : ED e ta δ (.list xs)) (hb : ED e tb δ (iD n)) (hn : xs.length * n ≤ 1000000) (hn2 : n ≤ 1000000) : ED e (tOp rRep ta tb) δ (.list (List.replicate n xs).flatten) := fun σ G H Q S k =>
  ha σ G H _ S fun d v G1 H1 r g q => hb σ G1 H1 _ g.s fun d2 v2 G2 H2 r2 g2 q2 => by
    subst r r2
    cases q2
    cases q.up g2.g with
    | @lst a ys _ f q =>
      refine ⟨a, n, ys, rfl, rfl, g2.s.sub _ _ f, by omega, by omega, by rw [q.len, sizeLine_eq, Int.toNat_natCast]; omega, fun p hp => ?_⟩
      have x := Ext.alloc (o := .lst (List.replicate (n : Int).toNat ys).flatten) g2.s.sub hp
      refine k _ _ _ _ rfl ((g.trans g2).trans (g2.s.go x)) (.lst upd_same ?_)
      rw [Int.toNat_natCast]
      have q' := q.up x.g
      exact DgAll.reps q' n
end
section
variable {C : Addr} {α : Type} {enc : α → List PyData} {pre : α → Prop} {bad : α → Option Nat} {R : α → PyData → Prop} {vs : List V} {H : Hp} {Q : VK} {E : XK}
theorem SP.in6 (h : SP C enc pre bad R vs H Q E) {a b c d f g : α → PyData} (he : ∀ p, enc p = [a p, b p, c p, d p, f p, g p]) (N : List Str) (hN : 6 ≤ N.length) : ∃ p v1 v2 v3 v4 v5 v6 G e, vs = [v1, v2, v3, v4, v5, v6] ∧ Dg G v1 (a p) ∧ Dg G v2 (b p) ∧ Dg G v3 (c p) ∧ Dg G v4 (d p) ∧ Dg G v5 (f p) ∧ Dg G v6 (g p) ∧ Ins C enc pre bad R vs H Q E N p G e (.p v1 (a p) :: .p v2 (b p) :: .p v3 (c p) :: .p v4 (d p) :: .p v5 (f p) :: .p v6 (g p) :: List.replicate (N.length - 6) .no) := by
  obtain ⟨G0, p0, _, h2, _⟩ := id h
  obtain ⟨p, G, dv, i⟩ := h.into N (by rw [h2.len, he]; exact hN)
  rw [he] at dv i
  cases dv with
  | cons d1 r =>
    cases r with
    | cons d2 r =>
      cases r with
      | cons d3 r =>
        cases r with
        | cons d4 r =>
          cases r with
          | cons d5 r =>
            cases r with
            | cons d6 r => cases r; exact ⟨p, _, _, _, _, _, _, G, _, rfl, d1, d2, d3, d4, d5, d6, i⟩
end
end DL
namespace DL
open PySem L2
/-- the least and the greatest of the best lots -/
def leastL (n s t : Nat) (as : List FM.Arc) (w : Int) : List Nat := (List.range n).filter fun v => ((FM.bestLots n s t as w).filter fun L => !FM.memL L v).isEmpty
def greatL (n s t : Nat) (as : List FM.Arc) (w : Int) : List Nat := (List.range n).filter fun v => !((FM.bestLots n s t as w).filter fun L => FM.memL L v).isEmpty
theorem least_eq {n s t : Nat} {as : List FM.Arc} {l : List Int} (B : FM.Best n as s t l) : FM.asc n (FM.rset as l s) = leastL n s t as (FM.sur as l t) := by
  unfold leastL
  refine FM.asc_congr (n := n) fun v hv => ?_
  rw [Bool.eq_iff_iff, ← B.in_all hv, List.isEmpty_iff, List.filter_eq_nil_iff]
  refine forall_congr' fun L => forall_congr' fun _ => ?_
  simp [FM.memL]
theorem great_eq {n s t : Nat} {as : List FM.Arc} {l : List Int} (B : FM.Best n as s t l) : FM.asc n (FM.lset as l t) = greatL n s t as (FM.sur as l t) := by
  unfold greatL
  refine FM.asc_congr (n := n) fun v hv => ?_
  rw [Bool.eq_iff_iff, ← B.in_some hv, Bool.not_eq_true', ← Bool.not_eq_true, List.isEmpty_iff, List.filter_eq_nil_iff]
  simp [FM.memL]
theorem cut_best {n s t : Nat} {as : List FM.Arc} {o : Option Int} {r : PyData} (wf : FM.Wf n as) (hs : s < n) (ht : t < n) (hb : FM.IsBest ((FM.law_lots n s [t] as).map (·.1)) o) (h : CutR n as s t r) :
    (o = none ∧ r = .none) ∨ ∃ w l, o = some w ∧ FM.Best n as s t l ∧ w = FM.sur as l t ∧ r = .tuple [nodesT (leastL n s t as w), nodesT (greatL n s t as w)] := by
  rcases h with ⟨l', B, q⟩ | ⟨f, q⟩
  · exact .inr ⟨_, l', hb.uniq B.isBest, B, rfl, by rw [q, least_eq B, great_eq B]⟩
  · exact .inl ⟨hb.uniq (FM.free_isBest wf hs ht f), q⟩
end DL
namespace DL
open PySem L2
theorem eqv_opt (a : Option Int) (w : Int) : PyData.eqv (optD a) (optD (some w)) = decide (a = some w) := by
  cases a with
  | none => simp [optD, PyData.eqv]
  | some x =>
    show (x == w) = decide (some x = some w)
    rw [Bool.eq_iff_iff]; simp
theorem lots_shape : ∀ Ls : List (List Nat), PyData.canLayAll0 (Ls.map nlD) = true ∧ PyData.depthAll (Ls.map nlD) ≤ 1
  | [] => by simp [PyData.canLayAll0, PyData.depthAll]
  | L :: Ls => by
    obtain ⟨h1, h2⟩ := lots_shape Ls
    obtain ⟨h3, h4⟩ := nbs_shape (xs := L.map iD) (by rw [List.all_map, List.all_eq_true]; intro x _; rfl)
    refine ⟨?_, ?_⟩
    · simp only [List.map_cons, PyData.canLayAll0, h1, Bool.and_true]
      show PyData.canLay0 (.list (L.map iD)) = true
      simp only [PyData.canLay0, h3]
    · simp only [List.map_cons, PyData.depthAll]
      have : PyData.depth (nlD L) ≤ 1 := by
        show PyData.depth (.list (L.map iD)) ≤ 1
        simp only [PyData.depth, h4]; omega
      omega
theorem shp_lots (Ls : List (List Nat)) : shp (.list (Ls.map nlD)) = true := by
  obtain ⟨h1, h2⟩ := lots_shape Ls
  have : decide (PyData.depth (.list (Ls.map nlD)) ≤ 64) = true := decide_eq_true (by
    show PyData.depthAll (Ls.map nlD) + 1 ≤ 64
    omega)
  simp only [shp, SeqAt.shaped, PyData.canLay0, h1, Bool.true_and]
  exact this
theorem best_of_lots {n s t : Nat} {as : List FM.Arc} {w : Int} : ((FM.law_lots n s [t] as).filter fun q => decide (q.1 = some w)).map (fun q => PyData.list (q.2.map iD)) = (FM.bestLots n s t as w).map nlD := by
  unfold FM.law_lots FM.bestLots
  rw [List.filter_map, List.map_map]
  rfl
theorem cut_R {d r : PyData} {n s t : Nat} {as : List FM.Arc} (hd : netOf d = some (n, as)) (hs : s < n) (ht : t < n) (h : ∃ n' as' a b, netOf d = some (n', as') ∧ ndOf n' (iD s) = some a ∧ ndOf n' (iD t) = some b ∧ CutR n' as' a b r) : CutR n as s t r := by
  obtain ⟨n', as', a, b, k1, k2, k3, k5⟩ := h
  have q1 := k1.symm.trans hd
  cases q1
  have q2 := k2.symm.trans (nd_of hs)
  cases q2
  have q3 := k3.symm.trans (nd_of ht)
  cases q3
  exact k5
section
variable {K : PySem.W.Frag} {C : Addr} {E E' : XK} {vs : List V} {H : Hp} {Q : VK}
theorem pu_law_cuts_right (h : sp_law_cuts_right C vs H Q E) : t_law_cuts_right K C E' { nx := fun _ H' => Q .non H', rt := Q } (L2.start ["_law_net_here", "_law_handed", "_law_start_here", "_law_goal", "_law_lots_here", "_law_best_here", "_law_told", "_law_some", "_law_least", "_law_great", "_law_one", "_law_node", "_law_lot"] vs) H := by
  obtain ⟨⟨n, as, hd, s, t, o⟩, v1, v2, v3, v4, v5, v6, G, e, rfl, d1, d2, d3, d4, d5, d6, i⟩ := SP.in6 h (fun _ => rfl) ["_law_net_here", "_law_handed", "_law_start_here", "_law_goal", "_law_lots_here", "_law_best_here", "_law_told", "_law_some", "_law_least", "_law_great", "_law_one", "_law_node", "_law_lot"] (by decide)
  obtain ⟨ok, hn10, ⟨hz, hn⟩, hs, ht, hne, hb⟩ := i.pre
  have ok : NetOk n as := ok
  have hn10 : n ≤ 10 := hn10
  have hz : NetSz hd := hz
  have hn : netOf hd = some (n, as) := hn
  have hs : s < n := hs
  have ht : t < n := ht
  have hne : s ≠ t := hne
  have hb : FM.IsBest ((FM.law_lots n s [t] as).map (·.1)) o := hb
  have nt := netOf_netD ok
  refine q_asg (R := fun d => ∃ r1 r2, d = .list [r1, r2] ∧ CutR n as s t r1 ∧ CutR n as s t r2) i.S (el_er (Rl := fun ds => ∃ r1 r2, ds = [r1, r2] ∧ CutR n as s t r1 ∧ CutR n as s t r2) (el_lst (ea_cons (Ra := fun d => CutR n as s t d) (Rs := fun ds => ∃ r2, ds = [r2] ∧ CutR n as s t r2) ?_ (ea_cons (Ra := fun d => CutR n as s t d) ?_ ea_nil fun d ds q1 q2 => ⟨d, by rw [q2], q1⟩) fun d ds q1 ⟨r2, q2, q3⟩ => ⟨d, r2, by rw [q2], q1, q3⟩) fun ds ⟨_, _, q, _⟩ => by rw [q]; exact (show 2 ≤ 1000000 by decide)) fun xs ⟨r1, r2, q, c1, c2⟩ => ⟨r1, r2, by rw [q], c1, c2⟩) fun d w6 G1 H1 ⟨r1, r2, q, c1, c2⟩ _ _ S1 => ?_
  · exact ed_call ⟨netD n as, iD s, iD t⟩ (ea_c (ed_var rfl) (ea_c (ed_var rfl) (ea_c (ed_var rfl) ea_nil))) ok.sz' (badPair_of nt (nd_of hs) (nd_of ht) (Ne.symm hne)) fun d q => cut_R nt hs ht q
  · exact ed_callR (ds := [iD t, iD s, hd]) ⟨hd, iD s, iD t⟩ (ea_c (ed_var rfl) (ea_c (ed_var rfl) (ea_c (ed_var rfl) ea_nil))) rfl hz (badPair_of hn (nd_of hs) (nd_of ht) (Ne.symm hne)) fun d q => cut_R hn hs ht q
  let F (c6 c7 c8 c9 : Cell) : Fm := [Cell.p v1 (netD n as), Cell.p v2 hd, Cell.p v3 (iD s), Cell.p v4 (iD t), Cell.p v5 (.list ((FM.law_lots n s [t] as).map lotD)), Cell.p v6 (optD o), c6, c7, c8, c9, .no, .no, .no]
  have S1 : Sd e (F (.d d) .no .no .no) G1 H1 _ := S1
  refine q_if0 (b := isNone (optD o)) S1 (eb_T (ed_isN (ed_var rfl))) (fun z G2 H2 _ S2 => ?_) fun z G2 H2 _ S2 => ?_
  · rcases cut_best ok.wf hs ht hb c1 with ⟨_, e1⟩ | ⟨w, l, qo, _⟩
    · rcases cut_best ok.wf hs ht hb c2 with ⟨_, e2⟩ | ⟨w, l, qo, _⟩
      · subst e1 e2 q
        refine s_out (Ra := fun d => d = .bool true) S2 (ER.is (ed_eqS (ed_repr (ed_var rfl) ?_) (ed_repr (el_ed (el_lst (ea_c ed_non (ea_c ed_non ea_nil)) fun _ q => by rw [q]; exact (show 2 ≤ 1000000 by decide))) ?_)) (by simp)) (i.rt rfl) fun d q => q
        · exact (Sm.list (n := 2) (W := 0) (D := 0) (xs := [.none, .none]) (fun x hx => by simp at hx; subst hx; exact Sm.none) (by decide)).shw (by decide) (by decide)
        · exact (Sm.list (n := 2) (W := 0) (D := 0) (xs := [.none, .none]) (fun x hx => by simp at hx; subst hx; exact Sm.none) (by decide)).shw (by decide) (by decide)
      · rw [qo] at z; cases z
    · rw [qo] at z; cases z
  · rcases cut_best ok.wf hs ht hb c1 with ⟨qo, _⟩ | ⟨w, l, qo, B, ew, e1⟩
    · rw [qo] at z; cases z
    rcases cut_best ok.wf hs ht hb c2 with ⟨qo2, _⟩ | ⟨w2, l2, qo2, _, _, e2⟩
    · rw [qo2] at z; cases z
    have : w2 = w := by rw [qo] at qo2; cases qo2; rfl
    subst this
    subst qo
    let T : PyData := .tuple [nodesT (leastL n s t as w2), nodesT (greatL n s t as w2)]
    have ed : d = .list [T, T] := by rw [q, e1, e2]
    subst ed
    have ll : leastL n s t as w2 = FM.asc n (FM.rset as l s) := by rw [least_eq B, ew]
    have gl : greatL n s t as w2 = FM.asc n (FM.lset as l t) := by rw [great_eq B, ew]
    have osz := ok.sz
    have n1 := ok.n1
    have lz : (FM.law_lots n s [t] as).length ≤ 1000000 := by
      unfold FM.law_lots
      rw [List.length_map]
      refine Nat.le_trans (lots_len s [t] n) (Nat.le_trans (Nat.pow_le_pow_right (by decide) hn10) (by decide))
    -- the best lots
    let best : PyData := .list ((FM.bestLots n s t as w2).map nlD)
    refine q_set (d := best) S2 (ER.is (el_ed (el_lc (xs := FM.law_lots n s [t] as) (enc := lotD) (p := fun q => decide (q.1 = some w2)) (f := fun q => PyData.list (q.2.map iD)) (δ' := fun q => (F (.d (.list [T, T])) .no .no .no).set 10 (.d (lotD q))) (it_seq (ed_var rfl) .l) (by simp) rfl (fun p _ => ga_name) (fun _ _ => rfl) (fun q _ => eb_T (ER.is (ed_eqD (ed_ix (n := 0) (d := optD q.1) (da := lotD q) (ed_var rfl) ed_int .t rfl) (ed_var rfl) ?_ ?_) (by rw [eqv_opt]))) (fun q _ _ => ed_ix (n := 1) (da := lotD q) (ed_var rfl) ed_int .t rfl) lz)) (by rw [best_of_lots])) fun w7 G3 H3 _ _ S3 => ?_
    · cases q.1 <;> rfl
    · rfl
    have S3 : Sd e (F (.d (.list [T, T])) (.d best) .no .no) G3 H3 _ := S3
    have inner : ∀ (neg : Bool) (c8 : Cell) (v : Nat), ELD e (tLc (iSeq K (tVar 7)) (gName 12) (tTest (tOp (rIn K neg) (tVar 11) (tVar 12))) (tVar 12) [12]) ((F (.d (.list [T, T])) (.d best) c8 .no).set 11 (.d (iD v))) (((FM.bestLots n s t as w2).filter fun L => (if neg then !FM.memL L v else FM.memL L v)).map nlD) := fun neg c8 v => by
      refine el_lc (xs := FM.bestLots n s t as w2) (enc := nlD) (p := fun L => (if neg then !FM.memL L v else FM.memL L v)) (f := nlD) (δ' := fun L => ((F (.d (.list [T, T])) (.d best) c8 .no).set 11 (.d (iD v))).set 12 (.d (nlD L))) (it_seq (ed_var rfl) .l) (by simp) rfl (fun p _ => ga_name) (fun _ _ => rfl) (fun L _ => eb_T ?_) (fun L _ _ => ed_var rfl) ?_
      · cases neg with
        | true => exact ER.is (ed_notIn (i := (v : Int)) (ed_var rfl) (ed_var rfl) (seq_nodes true L)) (by rw [mem_cast]; rfl)
        | false => exact ER.is (ed_in (i := (v : Int)) (ed_var rfl) (ed_var rfl) (seq_nodes true L)) (by rw [mem_cast]; rfl)
      · unfold FM.bestLots
        exact Nat.le_trans (List.length_filter_le _ _) (Nat.le_trans (lots_len s [t] n) (Nat.le_trans (Nat.pow_le_pow_right (by decide) hn10) (by decide)))
    have rng : ∀ c8 : Cell, ITD e (iRng1 (tCons (tOp (rIx K) (tVar 0) (tC (.int 0))) tNil)) (F (.d (.list [T, T])) (.d best) c8 .no) ((List.range n).map iD) := fun c8 => it_range1 (ea_c (ed_ix (n := 0) (d := iD n) (da := netD n as) (ed_var rfl) ed_int .t rfl) ea_nil) (by omega)
    refine q_set (d := nodesT (leastL n s t as w2)) S3 (ed_tupleOf rfl (el_ed (el_lc (xs := List.range n) (enc := iD) (p := fun v => ((FM.bestLots n s t as w2).filter fun L => !FM.memL L v).isEmpty) (f := iD) (δ' := fun v => (F (.d (.list [T, T])) (.d best) .no .no).set 11 (.d (iD v))) (rng .no) (fun _ h => h) rfl (fun p _ => ga_name) (fun _ _ => rfl) (fun v _ => eb_T (ER.is (ed_eqNilD (el_ed (inner true .no v)) (shp_lots _)) (by rw [List.isEmpty_map]; rfl))) (fun v _ _ => ed_var rfl) (by simp; omega))) .l) fun w8 G4 H4 _ _ S4 => ?_
    have S4 : Sd e (F (.d (.list [T, T])) (.d best) (.d (nodesT (leastL n s t as w2))) .no) G4 H4 _ := S4
    refine q_set (d := nodesT (greatL n s t as w2)) S4 (ed_tupleOf rfl (el_ed (el_lc (xs := List.range n) (enc := iD) (p := fun v => !((FM.bestLots n s t as w2).filter fun L => FM.memL L v).isEmpty) (f := iD) (δ' := fun v => (F (.d (.list [T, T])) (.d best) (.d (nodesT (leastL n s t as w2))) .no).set 11 (.d (iD v))) (rng _) (fun _ h => h) rfl (fun p _ => ga_name) (fun _ _ => rfl) (fun v _ => eb_T (ER.is (ed_neNilD (el_ed (inner false _ v)) (shp_lots _)) (by rw [List.isEmpty_map]; rfl))) (fun v _ _ => ed_var rfl) (by simp; omega))) .l) fun w9 G5 H5 _ _ S5 => ?_
    have S5 : Sd e (F (.d (.list [T, T])) (.d best) (.d (nodesT (leastL n s t as w2))) (.d (nodesT (greatL n s t as w2)))) G5 H5 _ := S5
    have small : ∀ S, Sm (10 * 65) 1 (nodesT (FM.asc n S)) := fun S => Sm.nodes (fun x hx => Nat.lt_of_lt_of_le (FM.mem_asc.mp hx).1 (Nat.le_trans hn10 (by decide))) (Nat.le_trans (asc_len n S) hn10)
    have smT : Shw (.list [T, T]) := by
      have sT : Sm (2 * (650 + 1)) 2 T := Sm.tuple (n := 2) (W := 650) (D := 1) (fun x hx => by
        rw [ll, gl] at hx
        obtain rfl | hx := List.mem_cons.mp hx
        · exact small _
        · rcases List.mem_cons.mp hx with rfl | hx
          · exact small _
          · cases hx) (by simp)
      exact (Sm.list (n := 2) (fun x hx => by simp at hx; subst hx; exact sT) (by simp)).shw (by decide) (by decide)
    refine q_if0 (b := false) S5 (eb_T (ER.is (ed_neS (ed_repr (ed_var rfl) smT) (ed_repr (ER.is (ed_rep (n := 2) (el_ed (el_lst (ea_c (ed_tup (ea_c (ed_var rfl) (ea_c (ed_var rfl) ea_nil)) (show 2 ≤ 1000000 by decide)) ea_nil) fun _ q => by rw [q]; exact (show 1 ≤ 1000000 by decide))) ed_int (show 1 * 2 ≤ 1000000 by decide) (by decide)) (by rfl)) smT)) (by simp))) (fun z => nomatch z) fun _ G6 H6 _ S6 => ?_
    have w1 : FM.cutw as (FM.memL (leastL n s t as w2)) = some w2 := by rw [ll, FM.cutw_asc ok.wf, B.cut, ew]
    have w2' : FM.cutw as (FM.memL (greatL n s t as w2)) = some w2 := by rw [gl, FM.cutw_asc ok.wf, B.cutL, ew]
    have cw : ∀ {δ' : Fm} {L : List Nat} {j : Nat} {S : Nat → Bool}, (δ'[0]?).bind cellD = some (netD n as) → (δ'[j]?).bind cellD = some (nodesT L) → L = FM.asc n S → S s = true → FM.cutw as (FM.memL L) = some w2 → ED e (tCall (sp_cut_worth C) [] E0 (tCons (tVar 0) (tCons (tVar j) tNil))) δ' (.int w2) := fun {δ' L j S} h0 hj hL hS hw => by
      refine ed_call ⟨netD n as, n, as, L⟩ (ea_c (ed_var h0) (ea_c (ed_var hj) ea_nil)) ⟨ok.sz', nt, ?_, ?_, ?_, ?_⟩ rfl fun d q => by rw [q, hw]; rfl
      · rw [hL]; exact List.length_pos_of_mem (FM.mem_asc.mpr ⟨hs, hS⟩)
      · rw [hL]; exact Nat.le_trans (asc_len n S) (Nat.le_trans hn10 (by decide))
      · rw [hL]; exact asc_pw n S
      · rw [hL]; exact fun x hx => (FM.mem_asc.mp hx).1
    exact s_out (Ra := fun d => d = .bool true) S6 (ER.is (ed_eqD (el_ed (el_lst (ea_c (cw rfl rfl ll B.r_s w1) (ea_c (cw rfl rfl gl B.l_s w2') ea_nil)) fun _ q => by rw [q]; exact (show 2 ≤ 1000000 by decide))) (el_ed (el_lst (ea_c (ed_var rfl) (ea_c (ed_var rfl) ea_nil)) fun _ q => by rw [q]; exact (show 2 ≤ 1000000 by decide))) rfl rfl) (by simp [PyData.eqv, PyData.eqvAll, optD])) (i.rt rfl) fun d q => q
end
end DL
namespace DL
open PySem L2
theorem free_ok {n : Nat} {as : List FM.Arc} (ok : NetOk n as) : NetOk n (FM.free as) :=
  ⟨ok.n0, ok.n1, fun a ha => ok.wf a (List.mem_filter.mp ha).1, Nat.le_trans (List.length_filter_le _ _) ok.sz⟩
theorem optD_none (o : Option Int) : isNone (optD o) = o.isNone := by cases o <;> rfl
section
variable {K : PySem.W.Frag} {C : Addr} {E E' : XK} {vs : List V} {H : Hp} {Q : VK}
theorem pu_law_many_right (h : sp_law_many_right C vs H Q E) : t_law_many_right K C E' { nx := fun _ H' => Q .non H', rt := Q } (L2.start ["_law_box_here", "_law_net_here", "_law_start_here", "_law_goal", "_law_free", "_law_told", "_law_lot", "_law_least", "_law_great", "_law_arc"] vs) H := by
  obtain ⟨_, bx, G, e, rfl, i⟩ := BP.in0 h (fun _ => rfl) ["_law_box_here", "_law_net_here", "_law_start_here", "_law_goal", "_law_free", "_law_told", "_law_lot", "_law_least", "_law_great", "_law_arc"] (by decide)
  refine q_asg i.S (ed_callB rfl ((24 : Nat), (60 : Nat)) (ea_c ed_int (ea_c ed_int ea_nil)) ⟨by decide, by decide, by decide⟩ fun d q => q) fun d w1 G1 H1 ⟨n, as, ed, h2, hn, wf, hl⟩ _ _ S1 => ?_
  subst ed
  have hn : n ≤ 24 := hn
  have hl : as.length ≤ 60 := hl
  have ok : NetOk n as := ⟨by omega, by omega, wf, by omega⟩
  have nt := netOf_netD ok
  let t : Nat := n - 1
  have ht : t < n := by show n - 1 < n; omega
  have hs : 0 < n := by omega
  have hne : 0 ≠ t := by show 0 ≠ n - 1; omega
  let F (c2 c3 c4 c5 c6 c7 c8 : Cell) : Fm := [.b bx, .d (netD n as), c2, c3, c4, c5, c6, c7, c8, .no]
  have S1 : Sd e (F .no .no .no .no .no .no .no) G1 H1 _ := S1
  refine q_par (Rs := fun ds => ds = [iD 0, iD t]) S1 (ea_c ed_int (ea_c (ER.is (ed_sub (ed_ix (n := 0) (d := iD n) (da := netD n as) (ed_var rfl) ed_int .t rfl) ed_int) (by show PyData.int _ = PyData.int _; congr 1; show (n : Int) - 1 = ((n - 1 : Nat) : Int); omega)) ea_nil)) (fun ds q => by rw [q]; rfl) fun d1 d2 w2 w3 G2 H2 q _ S2 => ?_
  cases q
  have S2 : Sd e (F (.d (iD 0)) (.d (iD t)) .no .no .no .no .no) G2 H2 _ := S2
  let fr : PyData := .tuple [iD n, .list ((FM.free as).map arcD)]
  refine q_set (d := fr) S2 (ed_tup (ea_c (ed_ix (n := 0) (d := iD n) (da := netD n as) (ed_var rfl) ed_int .t rfl) (ea_c (el_ed (el_lc (xs := as) (enc := arcD) (p := fun a => a.mo.isNone) (f := arcD) (δ' := fun a => (F (.d (iD 0)) (.d (iD t)) .no .no .no .no .no).set 9 (.d (arcD a))) (it_seq (d := arcsD as) (ed_ix (n := 1) (da := netD n as) (ed_var rfl) ed_int .t rfl) .t) (by simp) rfl (fun p _ => ga_name) (fun _ _ => rfl) (fun a _ => eb_T (ER.is (ed_isN (ed_ix (n := 2) (d := optD a.mo) (da := arcD a) (ed_var rfl) ed_int .t rfl)) (by rw [optD_none]))) (fun a _ _ => ed_var rfl) (by omega))) ea_nil)) (show 2 ≤ 1000000 by decide)) fun w4 G3 H3 _ _ S3 => ?_
  have S3 : Sd e (F (.d (iD 0)) (.d (iD t)) (.d fr) .no .no .no .no) G3 H3 _ := S3
  refine q_asg S3 (ed_call ⟨netD n as, iD 0, iD t⟩ (ea_c (ed_var rfl) (ea_c (ed_var rfl) (ea_c (ed_var rfl) ea_nil))) ok.sz' (badPair_of nt (nd_of hs) (nd_of ht) (Ne.symm hne)) fun d q => q) fun r w5 G4 H4 hr _ _ S4 => ?_
  have hr : LedR n as 0 t (FM.zeros as.length) r := by
    obtain ⟨n', as', a, b, k1, k2, k3, k5⟩ := hr
    have q1 := k1.symm.trans nt
    cases q1
    have q2 := k2.symm.trans (nd_of hs)
    cases q2
    have q3 := k3.symm.trans (nd_of ht)
    cases q3
    exact k5
  have S4 : Sd e (F (.d (iD 0)) (.d (iD t)) (.d fr) (.d r) .no .no .no) G4 H4 _ := S4
  have fl : (FM.free as).length ≤ as.length := List.length_filter_le _ _
  have inT : ∀ {L : List Nat}, decide ((t : Int) ∈ L.map fun v : Nat => (v : Int)) = FM.memL L t := mem_cast
  refine q_ifR (Rt := fun b => b = true ↔ FM.FreeR as 0 t) S4 (et_T (er_op (Ra := fun d => d = iD t) (Rb := fun d => ∃ L : List Nat, (∀ v, v ∈ L ↔ FM.FreeR as 0 v) ∧ d = .list (L.map iD)) (ed_var rfl) (ed_call ⟨n, FM.free as, true, true, FM.zeros (FM.free as).length, 0⟩ (ea_c (ed_var rfl) (ea_c (ER.is (ed_rep (n := (FM.free as).length) (el_ed (el_lst (ea_c ed_int ea_nil) fun _ q => by rw [q]; exact (show 1 ≤ 1000000 by decide))) (ER.is (ed_len rfl (ed_ix (n := 1) (d := .list ((FM.free as).map arcD)) (da := fr) (ed_var rfl) ed_int .t rfl) .l) (by rw [List.length_map])) (by show 1 * _ ≤ _; omega) (by omega)) ?_) (ea_c (ed_var rfl) ea_nil))) ⟨free_ok ok, (FM.zero_flow (s := 0) (t := 0) (free_ok ok).wf).1, hs⟩ rfl fun d ⟨L, _, k2, k3⟩ => ⟨L, fun v => (k2 v).trans FM.free_reach, k3⟩) fun da db q1 ⟨L, k1, k2⟩ => ?_)) (fun z G5 H5 _ S5 => ?_) fun z G5 H5 _ S5 => ?_
  · show PyData.list _ = PyData.list _
    congr 1
    unfold FM.zeros
    rw [List.map_replicate, List.flatten_replicate_singleton]
  · subst q1 k2
    exact fun G H x y Q s hx hy kk => ov_in (K := K) (ns := L.map fun v : Nat => (v : Int)) (seq_nodes true L) G H x y Q s hx hy fun d v q => kk d v ⟨_, q, by
      rw [if_neg (by decide), inT, ← k1 t]
      unfold FM.memL
      exact decide_eq_true_iff⟩
  · have f := z.mp rfl
    have er : r = .none := by
      rcases hr with ⟨l', B, _, _⟩ | ⟨_, q⟩
      · exact absurd f B.not_free
      · exact q
    subst er
    refine s_outB (Ra := fun d => d = .bool true) S5 rfl (ER.is (ed_andV (a := true) (b := true) (ed_isN (d := .none) (ed_var rfl)) fun _ => ed_isN (d := .none) (ed_call ⟨netD n as, iD 0, iD t⟩ (ea_c (ed_var rfl) (ea_c (ed_var rfl) (ea_c (ed_var rfl) ea_nil))) ok.sz' (badPair_of nt (nd_of hs) (nd_of ht) (Ne.symm hne)) fun d q => ?_)) rfl) i.rt fun d q => q
    rcases cut_R nt hs ht q with ⟨l', B, _⟩ | ⟨_, q⟩
    · exact absurd f B.not_free
    · exact q
  · have nf : ¬ FM.FreeR as 0 t := fun f => Bool.false_ne_true (z.mpr f)
    obtain ⟨l, B, er⟩ : ∃ l, FM.Best n as 0 t l ∧ r = intsT l := by
      rcases hr with ⟨l', B, _, q⟩ | ⟨f, _⟩
      · exact ⟨l', B, q⟩
      · exact absurd f nf
    subst er
    have hlen := B.flow.1.len
    have hlo : loadOf (intsT l) = some l := loadOf_ints (b := false) (of_borne B.flow.1).1
    have fit : isFit n as 0 t (intsT l) = true := isFit_iff.mpr ⟨l, hlo, B.flow⟩
    refine q_if0 (b := false) S5 (eb_not (a := true) (eb_B (ed_call ⟨n, as, 0, t, some (false, l)⟩ (ea_c (ed_var rfl) (ea_c (ed_var rfl) (ea_c (ed_var rfl) (ea_c (ed_var rfl) ea_nil)))) ⟨ok, by show l.length ≤ 2000; omega⟩ rfl fun d q => by rw [q]; exact congrArg PyData.bool fit))) (fun z => nomatch z) fun _ G6 H6 _ S6 => ?_
    let lot : List Nat := FM.asc n (FM.rset as l 0)
    refine q_asg (R := fun d => d = .list (lot.map iD)) S6 (el_er (el_sortedR (P := fun ns => ∃ L : List Nat, L.Nodup ∧ (∀ v, v ∈ L ↔ FM.Reach as l 0 v) ∧ ns = L.map fun v : Nat => (v : Int)) (ed_call ⟨n, as, false, false, l, 0⟩ (ea_c (ed_var rfl) (ea_c (ed_var rfl) (ea_c (ed_var rfl) ea_nil))) ⟨ok, B.flow.1, hs⟩ rfl fun d ⟨L, k1, k2, k3⟩ => ⟨_, by rw [k3, List.map_map]; rfl, L, k1, k2, rfl⟩)) fun xs ⟨ms, ns, ⟨L, nd, hL, en⟩, q, p, so⟩ => by
      subst en
      rw [q]
      exact congrArg PyData.list (sorted_asc nd (fun v => ⟨fun hv => ⟨((hL v).mp hv).lt ok.wf hs, FM.rset_iff.mpr ((hL v).mp hv)⟩, fun ⟨_, hv⟩ => (hL v).mpr (FM.rset_iff.mp hv)⟩) p so)) fun d w6 G7 H7 q _ _ S7 => ?_
    subst q
    have S7 : Sd e (F (.d (iD 0)) (.d (iD t)) (.d fr) (.d (intsT l)) (.d (.list (lot.map iD))) .no .no) G7 H7 _ := S7
    have w1 : FM.cutw as (FM.memL lot) = some (FM.sur as l t) := by rw [FM.cutw_asc ok.wf, B.cut]
    have ew : ∀ {δ' : Fm}, (δ'[1]?).bind cellD = some (netD n as) → (δ'[6]?).bind cellD = some (.list (lot.map iD)) → ED e (tCall (sp_law_worth C) [] E0 (tCons (tVar 1) (tCons (tVar 6) tNil))) δ' (.int (FM.sur as l t)) := fun {δ'} h1 h6 => ed_call ⟨n, as, true, lot⟩ (ea_c (ed_var h1) (ea_c (ed_var h6) ea_nil)) ok.sz rfl fun d q => by rw [q]; exact congrArg optD w1
    refine q_if0 (b := false || false) S7 (eb_or (eb_T (ER.is (ed_in (i := (t : Int)) (ed_var rfl) (ed_var rfl) (seq_nodes true lot)) (by rw [mem_cast, FM.memL_asc ht, B.r_t]))) fun _ => eb_T (ER.is (ed_neD (ew rfl rfl) (ed_call (⟨n, as, false, l⟩, t) (ea_c (ed_var rfl) (ea_c (ed_var rfl) (ea_c (ed_var rfl) ea_nil))) ⟨ok.sz, hlen⟩ rfl fun d q => q) rfl rfl) (by rw [eqv_int]; simp))) (fun z => nomatch z) fun _ G8 H8 _ S8 => ?_
    let T : PyData := .tuple [nodesT lot, nodesT (FM.asc n (FM.lset as l t))]
    refine q_asgG (R := fun d => d = T) S8 (ed_call ⟨netD n as, iD 0, iD t⟩ (ea_c (ed_var rfl) (ea_c (ed_var rfl) (ea_c (ed_var rfl) ea_nil))) ok.sz' (badPair_of nt (nd_of hs) (nd_of ht) (Ne.symm hne)) fun d q => ?_) (δ' := fun _ => F (.d (iD 0)) (.d (iD t)) (.d fr) (.d (intsT l)) (.d (.list (lot.map iD))) (.d (nodesT lot)) (.d (nodesT (FM.asc n (FM.lset as l t))))) (fun d q => by rw [q]; exact ga_two) fun d σ' G9 H9 _ _ S9 => ?_
    · rcases cut_best ok.wf hs ht B.isBest (cut_R nt hs ht q) with ⟨q, _⟩ | ⟨w, l2, q, _, _, q2⟩
      · cases q
      · cases q
        rw [q2, ← least_eq B, ← great_eq B]
    · have sm : Shw (nodesT lot) := (Sm.nodes (n := 24) (fun x hx => Nat.lt_of_lt_of_le (FM.mem_asc.mp hx).1 (Nat.le_trans hn (by decide))) (Nat.le_trans (asc_len n _) hn)).shw (by decide) (by decide)
      have w2 : FM.cutw as (FM.memL (FM.asc n (FM.lset as l t))) = some (FM.sur as l t) := by rw [FM.cutw_asc ok.wf, B.cutL]
      have ew2 : ∀ {δ' : Fm}, (δ'[1]?).bind cellD = some (netD n as) → (δ'[8]?).bind cellD = some (nodesT (FM.asc n (FM.lset as l t))) → ED e (tCall (sp_law_worth C) [] E0 (tCons (tVar 1) (tCons (tVar 8) tNil))) δ' (.int (FM.sur as l t)) := fun {δ'} h1 h6 => ed_call ⟨n, as, false, FM.asc n (FM.lset as l t)⟩ (ea_c (ed_var h1) (ea_c (ed_var h6) ea_nil)) ok.sz rfl fun d q => by rw [q]; exact congrArg optD w2
      refine s_outB (Ra := fun d => d = .bool true) S9 rfl (ER.is (ed_andV (a := true) (b := true) (ER.is (ed_eqS (ed_repr (ed_var rfl) sm) (ed_repr (ed_tupleOf rfl (ed_var rfl) .l) sm)) (congrArg PyData.bool (decide_eq_true (show (nodesT lot).shown = (nodesT lot).shown from rfl)))) fun _ => ER.is (ed_andV (a := true) (b := true) (ER.is (ed_eqD (ew2 rfl rfl) (ew rfl rfl) rfl rfl) (by rw [eqv_int]; simp)) fun _ => ER.is (ed_notIn (i := (t : Int)) (ed_var rfl) (ed_var rfl) (seq_nodes false (FM.asc n (FM.lset as l t)))) (by rw [mem_cast, FM.memL_asc ht, B.l_t]; rfl)) rfl) rfl) i.rt fun d q => q
end
end DL
/-! printed by gen_ok.py -/
namespace DL
open PySem PySem.Spec PyProof.Rows L2
section
variable {w : World} {K : PySem.W.Frag} {mg : Str → Option Value} {base : Heap}
theorem ok_is_integer (T : Txt K mg) : FnOk PG w K mg base (L2.CX PG w) 1 T.f_is_integer.f T.f_is_integer.fd ["value"] (sp_is_integer T.C) := Fun.okX T.f_is_integer.F sc_is_integer (fun vs H Q E h => SP.len (n := 1) (fun _ => rfl) h) (fun cdv A outer s H vs Q E hr h => ⟨_, (d_is_integer T  T.f_is_integer.f cdv A outer s H E hr).nox, pu_is_integer h⟩)
theorem ok_is_number (T : Txt K mg) : FnOk PG w K mg base (L2.CX PG w) 2 T.f_is_number.f T.f_is_number.fd ["value"] (sp_is_number T.C) := Fun.okX T.f_is_number.F sc_is_number (fun vs H Q E h => SP.len (n := 1) (fun _ => rfl) h) (fun cdv A outer s H vs Q E hr h => ⟨_, (d_is_number T (ok_is_integer T) T.f_is_number.f cdv A outer s H E hr).nox, pu_is_number h⟩)
theorem ok_is_below (T : Txt K mg) : FnOk PG w K mg base (L2.CX PG w) 3 T.f_is_below.f T.f_is_below.fd ["value", "most"] (sp_is_below T.C) := Fun.okX T.f_is_below.F sc_is_below (fun vs H Q E h => SP.len (n := 2) (fun _ => rfl) h) (fun cdv A outer s H vs Q E hr h => ⟨_, (d_is_below T (ok_is_number T) T.f_is_below.f cdv A outer s H E hr).nox, pu_is_below h⟩)
theorem ok_is_sequence (T : Txt K mg) : FnOk PG w K mg base (L2.CX PG w) 1 T.f_is_sequence.f T.f_is_sequence.fd ["value"] (sp_is_sequence T.C) := Fun.okX T.f_is_sequence.F sc_is_sequence (fun vs H Q E h => SP.len (n := 1) (fun _ => rfl) h) (fun cdv A outer s H vs Q E hr h => ⟨_, (d_is_sequence T  T.f_is_sequence.f cdv A outer s H E hr).nox, pu_is_sequence h⟩)
theorem ok_is_ascending (T : Txt K mg) : FnOk PG w K mg base (L2.CX PG w) 1 T.f_is_ascending.f T.f_is_ascending.fd ["value"] (sp_is_ascending T.C) := Fun.okX T.f_is_ascending.F sc_is_ascending (fun vs H Q E h => SP.len (n := 1) (fun _ => rfl) h) (fun cdv A outer s H vs Q E hr h => ⟨_, (d_is_ascending T  T.f_is_ascending.f cdv A outer s H E hr).nox, pu_is_ascending h⟩)
theorem ok_is_lot (T : Txt K mg) : FnOk PG w K mg base (L2.CX PG w) 4 T.f_is_lot.f T.f_is_lot.fd ["value", "most"] (sp_is_lot T.C) := Fun.okX T.f_is_lot.F sc_is_lot (fun vs H Q E h => SP.len (n := 2) (fun _ => rfl) h) (fun cdv A outer s H vs Q E hr h => ⟨_, (d_is_lot T (ok_is_below T) (ok_is_sequence T) (ok_is_ascending T) T.f_is_lot.f cdv A outer s H E hr).nox, pu_is_lot h⟩)
theorem ok_is_arc (T : Txt K mg) : FnOk PG w K mg base (L2.CX PG w) 4 T.f_is_arc.f T.f_is_arc.fd ["many", "value"] (sp_is_arc T.C) := Fun.okX T.f_is_arc.F sc_is_arc (fun vs H Q E h => SP.len (n := 2) (fun _ => rfl) h) (fun cdv A outer s H vs Q E hr h => ⟨_, (d_is_arc T (ok_is_number T) (ok_is_below T) (ok_is_sequence T) T.f_is_arc.f cdv A outer s H E hr).nox, pu_is_arc h⟩)
theorem ok_check_net (T : Txt K mg) : FnOk PG w K mg base (L2.CX PG w) 5 T.f_check_net.f T.f_check_net.fd ["value"] (sp_check_net T.C) := Fun.okX T.f_check_net.F sc_check_net (fun vs H Q E h => SP.len (n := 1) (fun _ => rfl) h) (fun cdv A outer s H vs Q E hr h => ⟨_, (d_check_net T (ok_is_below T) (ok_is_sequence T) (ok_is_arc T) T.f_check_net.f cdv A outer s H E hr), pu_check_net h⟩)
theorem ok_need_node (T : Txt K mg) : FnOk PG w K mg base (L2.CX PG w) 4 T.f_need_node.f T.f_need_node.fd ["many", "value"] (sp_need_node T.C) := Fun.okX T.f_need_node.F sc_need_node (fun vs H Q E h => SP.len (n := 2) (fun _ => rfl) h) (fun cdv A outer s H vs Q E hr h => ⟨_, (d_need_node T (ok_is_below T) T.f_need_node.f cdv A outer s H E hr), pu_need_node h⟩)
theorem ok_need_ends (T : Txt K mg) : FnOk PG w K mg base (L2.CX PG w) 5 T.f_need_ends.f T.f_need_ends.fd ["many", "start", "ends"] (sp_need_ends T.C) := Fun.okX T.f_need_ends.F sc_need_ends (fun vs H Q E h => SP.len (n := 3) (fun _ => rfl) h) (fun cdv A outer s H vs Q E hr h => ⟨_, (d_need_ends T (ok_is_below T) (ok_is_sequence T) (ok_need_node T) T.f_need_ends.f cdv A outer s H E hr), pu_need_ends h⟩)
theorem ok_need_pair (T : Txt K mg) : FnOk PG w K mg base (L2.CX PG w) 5 T.f_need_pair.f T.f_need_pair.fd ["many", "start", "goal"] (sp_need_pair T.C) := Fun.okX T.f_need_pair.F sc_need_pair (fun vs H Q E h => SP.len (n := 3) (fun _ => rfl) h) (fun cdv A outer s H vs Q E hr h => ⟨_, (d_need_pair T (ok_is_below T) (ok_need_node T) T.f_need_pair.f cdv A outer s H E hr), pu_need_pair h⟩)
theorem ok_are_borne (T : Txt K mg) : FnOk PG w K mg base (L2.CX PG w) 3 T.f_are_borne.f T.f_are_borne.fd ["arcs", "value"] (sp_are_borne T.C) := Fun.okX T.f_are_borne.F sc_are_borne (fun vs H Q E h => SP.len (n := 2) (fun _ => rfl) h) (fun cdv A outer s H vs Q E hr h => ⟨_, (d_are_borne T (ok_is_number T) (ok_is_sequence T) T.f_are_borne.f cdv A outer s H E hr).nox, pu_are_borne h⟩)
theorem ok_need_load (T : Txt K mg) : FnOk PG w K mg base (L2.CX PG w) 4 T.f_need_load.f T.f_need_load.fd ["arcs", "value"] (sp_need_load T.C) := Fun.okX T.f_need_load.F sc_need_load (fun vs H Q E h => SP.len (n := 2) (fun _ => rfl) h) (fun cdv A outer s H vs Q E hr h => ⟨_, (d_need_load T (ok_are_borne T) T.f_need_load.f cdv A outer s H E hr), pu_need_load h⟩)
theorem ok_surplus (T : Txt K mg) : FnOk PG w K mg base (L2.CX PG w) 1 T.f_surplus.f T.f_surplus.fd ["many", "arcs", "load"] (sp_surplus T.C) := Fun.okX T.f_surplus.F sc_surplus (fun vs H Q E h => SP.len (n := 3) (fun _ => rfl) h) (fun cdv A outer s H vs Q E hr h => ⟨_, (d_surplus T  T.f_surplus.f cdv A outer s H E hr).nox, pu_surplus h⟩)
theorem ok_no_flow (T : Txt K mg) : FnOk PG w K mg base (L2.CX PG w) 6 T.f_no_flow.f T.f_no_flow.fd ["net"] (sp_no_flow T.C) := Fun.okX T.f_no_flow.F sc_no_flow (fun vs H Q E h => SP.len (n := 1) (fun _ => rfl) h) (fun cdv A outer s H vs Q E hr h => ⟨_, (d_no_flow T (ok_check_net T) T.f_no_flow.f cdv A outer s H E hr), pu_no_flow h⟩)
theorem ok_fits (T : Txt K mg) : FnOk PG w K mg base (L2.CX PG w) 4 T.f_fits.f T.f_fits.fd ["many", "arcs", "ends", "value"] (sp_fits T.C) := Fun.okX T.f_fits.F sc_fits (fun vs H Q E h => SP.len (n := 4) (fun _ => rfl) h) (fun cdv A outer s H vs Q E hr h => ⟨_, (d_fits T (ok_are_borne T) (ok_surplus T) T.f_fits.f cdv A outer s H E hr).nox, pu_fits h⟩)
theorem ok_flow_fits (T : Txt K mg) : FnOk PG w K mg base (L2.CX PG w) 6 T.f_flow_fits.f T.f_flow_fits.fd ["net", "start", "goal", "value"] (sp_flow_fits T.C) := Fun.okX T.f_flow_fits.F sc_flow_fits (fun vs H Q E h => SP.len (n := 4) (fun _ => rfl) h) (fun cdv A outer s H vs Q E hr h => ⟨_, (d_flow_fits T (ok_check_net T) (ok_need_pair T) (ok_fits T) T.f_flow_fits.f cdv A outer s H E hr), pu_flow_fits h⟩)
theorem ok_need_fit (T : Txt K mg) : FnOk PG w K mg base (L2.CX PG w) 7 T.f_need_fit.f T.f_need_fit.fd ["net", "start", "goal", "value"] (sp_need_fit T.C) := Fun.okX T.f_need_fit.F sc_need_fit (fun vs H Q E h => SP.len (n := 4) (fun _ => rfl) h) (fun cdv A outer s H vs Q E hr h => ⟨_, (d_need_fit T (ok_flow_fits T) T.f_need_fit.f cdv A outer s H E hr), pu_need_fit h⟩)
theorem ok_worth (T : Txt K mg) : FnOk PG w K mg base (L2.CX PG w) 8 T.f_worth.f T.f_worth.fd ["net", "start", "goal", "flow"] (sp_worth T.C) := Fun.okX T.f_worth.F sc_worth (fun vs H Q E h => SP.len (n := 4) (fun _ => rfl) h) (fun cdv A outer s H vs Q E hr h => ⟨_, (d_worth T (ok_check_net T) (ok_surplus T) (ok_need_fit T) T.f_worth.f cdv A outer s H E hr), pu_worth h⟩)
theorem ok_cut_worth (T : Txt K mg) : FnOk PG w K mg base (L2.CX PG w) 6 T.f_cut_worth.f T.f_cut_worth.fd ["net", "lot"] (sp_cut_worth T.C) := Fun.okX T.f_cut_worth.F sc_cut_worth (fun vs H Q E h => SP.len (n := 2) (fun _ => rfl) h) (fun cdv A outer s H vs Q E hr h => ⟨_, (d_cut_worth T (ok_is_lot T) (ok_check_net T) T.f_cut_worth.f cdv A outer s H E hr), pu_cut_worth h⟩)
theorem ok_left_of (T : Txt K mg) : FnOk PG w K mg base (L2.CX PG w) 1 T.f_left_of.f T.f_left_of.fd ["arcs", "load", "at", "way"] (sp_left_of T.C) := Fun.okX T.f_left_of.F sc_left_of (fun vs H Q E h => SP.len (n := 4) (fun _ => rfl) h) (fun cdv A outer s H vs Q E hr h => ⟨_, (d_left_of T  T.f_left_of.f cdv A outer s H E hr).nox, pu_left_of h⟩)
theorem ok_can_go (T : Txt K mg) : FnOk PG w K mg base (L2.CX PG w) 2 T.f_can_go.f T.f_can_go.fd ["arcs", "load", "at", "way"] (sp_can_go T.C) := Fun.okX T.f_can_go.F sc_can_go (fun vs H Q E h => SP.len (n := 4) (fun _ => rfl) h) (fun cdv A outer s H vs Q E hr h => ⟨_, (d_can_go T (ok_left_of T) T.f_can_go.f cdv A outer s H E hr).nox, pu_can_go h⟩)
theorem ok_side_of (T : Txt K mg) : FnOk PG w K mg base (L2.CX PG w) 1 T.f_side_of.f T.f_side_of.fd ["arcs", "step"] (sp_side_of T.C) := Fun.okX T.f_side_of.F sc_side_of (fun vs H Q E h => SP.len (n := 2) (fun _ => rfl) h) (fun cdv A outer s H vs Q E hr h => ⟨_, (d_side_of T  T.f_side_of.f cdv A outer s H E hr).nox, pu_side_of h⟩)
theorem ok_leads_of (T : Txt K mg) : FnOk PG w K mg base (L2.CX PG w) 1 T.f_leads_of.f T.f_leads_of.fd ["many", "arcs"] (sp_leads_of T.C) := Fun.okX T.f_leads_of.F sc_leads_of (fun vs H Q E h => SP.len (n := 2) (fun _ => rfl) h) (fun cdv A outer s H vs Q E hr h => ⟨_, (d_leads_of T  T.f_leads_of.f cdv A outer s H E hr).nox, pu_leads_of h⟩)
theorem ok_come_by (T : Txt K mg) : FnOk PG w K mg base (L2.CX PG w) 3 T.f_come_by.f T.f_come_by.fd ["leads", "arcs", "load", "start"] (sp_come_by T.C) := Fun.okX T.f_come_by.F sc_come_by (fun vs H Q E h => SP.len (n := 4) (fun _ => rfl) h) (fun cdv A outer s H vs Q E hr h => ⟨_, (d_come_by T (ok_can_go T) T.f_come_by.f cdv A outer s H E hr).nox, pu_come_by h⟩)
theorem ok_traced (T : Txt K mg) : FnOk PG w K mg base (L2.CX PG w) 2 T.f_traced.f T.f_traced.fd ["arcs", "found", "node"] (sp_traced T.C) := Fun.okX T.f_traced.F sc_traced (fun vs H Q E h => SP.len (n := 3) (fun _ => rfl) h) (fun cdv A outer s H vs Q E hr h => ⟨_, (d_traced T (ok_side_of T) T.f_traced.f cdv A outer s H E hr).nox, pu_traced h⟩)
theorem ok_walk (T : Txt K mg) : FnOk PG w K mg base (L2.CX PG w) 6 T.f_walk.f T.f_walk.fd ["net", "flow", "start", "ends"] (sp_walk T.C) := Fun.okX T.f_walk.F sc_walk (fun vs H Q E h => SP.len (n := 4) (fun _ => rfl) h) (fun cdv A outer s H vs Q E hr h => ⟨_, (d_walk T (ok_check_net T) (ok_need_ends T) (ok_need_load T) (ok_leads_of T) (ok_come_by T) (ok_traced T) T.f_walk.f cdv A outer s H E hr), pu_walk h⟩)
theorem ok_reached (T : Txt K mg) : FnOk PG w K mg base (L2.CX PG w) 6 T.f_reached.f T.f_reached.fd ["net", "flow", "start"] (sp_reached T.C) := Fun.okX T.f_reached.F sc_reached (fun vs H Q E h => SP.len (n := 3) (fun _ => rfl) h) (fun cdv A outer s H vs Q E hr h => ⟨_, (d_reached T (ok_check_net T) (ok_need_node T) (ok_need_load T) (ok_leads_of T) (ok_come_by T) T.f_reached.f cdv A outer s H E hr), pu_reached h⟩)
theorem ok_reaching (T : Txt K mg) : FnOk PG w K mg base (L2.CX PG w) 6 T.f_reaching.f T.f_reaching.fd ["net", "flow", "goal"] (sp_reaching T.C) := Fun.okX T.f_reaching.F sc_reaching (fun vs H Q E h => SP.len (n := 3) (fun _ => rfl) h) (fun cdv A outer s H vs Q E hr h => ⟨_, (d_reaching T (ok_check_net T) (ok_need_node T) (ok_need_load T) (ok_leads_of T) (ok_come_by T) T.f_reaching.f cdv A outer s H E hr), pu_reaching h⟩)
theorem ok_least_left (T : Txt K mg) : FnOk PG w K mg base (L2.CX PG w) 2 T.f_least_left.f T.f_least_left.fd ["arcs", "load", "steps"] (sp_least_left T.C) := Fun.okX T.f_least_left.F sc_least_left (fun vs H Q E h => SP.len (n := 3) (fun _ => rfl) h) (fun cdv A outer s H vs Q E hr h => ⟨_, (d_least_left T (ok_left_of T) T.f_least_left.f cdv A outer s H E hr).nox, pu_least_left h⟩)
theorem ok_gone (T : Txt K mg) : FnOk PG w K mg base (L2.CX PG w) 1 T.f_gone.f T.f_gone.fd ["load", "steps", "many"] (sp_gone T.C) := Fun.okX T.f_gone.F sc_gone (fun vs H Q E h => SP.len (n := 3) (fun _ => rfl) h) (fun cdv A outer s H vs Q E hr h => ⟨_, (d_gone T  T.f_gone.f cdv A outer s H E hr).nox, pu_gone h⟩)
theorem ok_led_by (T : Txt K mg) : FnOk PG w K mg base (L2.CX PG w) 4 T.f_led_by.f T.f_led_by.fd ["many", "arcs", "start", "goals", "flow"] (sp_led_by T.C) := Fun.okX T.f_led_by.F sc_led_by (fun vs H Q E h => SP.len (n := 5) (fun _ => rfl) h) (fun cdv A outer s H vs Q E hr h => ⟨_, (d_led_by T (ok_leads_of T) (ok_come_by T) (ok_traced T) (ok_least_left T) (ok_gone T) T.f_led_by.f cdv A outer s H E hr).nox, pu_led_by h⟩)
theorem ok_led_on (T : Txt K mg) : FnOk PG w K mg base (L2.CX PG w) 8 T.f_led_on.f T.f_led_on.fd ["net", "start", "goal", "flow"] (sp_led_on T.C) := Fun.okX T.f_led_on.F sc_led_on (fun vs H Q E h => SP.len (n := 4) (fun _ => rfl) h) (fun cdv A outer s H vs Q E hr h => ⟨_, (d_led_on T (ok_check_net T) (ok_need_fit T) (ok_led_by T) T.f_led_on.f cdv A outer s H E hr), pu_led_on h⟩)
theorem ok_greatest (T : Txt K mg) : FnOk PG w K mg base (L2.CX PG w) 9 T.f_greatest.f T.f_greatest.fd ["net", "start", "goal"] (sp_greatest T.C) := Fun.okX T.f_greatest.F sc_greatest (fun vs H Q E h => SP.len (n := 3) (fun _ => rfl) h) (fun cdv A outer s H vs Q E hr h => ⟨_, (d_greatest T (ok_no_flow T) (ok_led_on T) T.f_greatest.f cdv A outer s H E hr), pu_greatest h⟩)
theorem ok_cuts (T : Txt K mg) : FnOk PG w K mg base (L2.CX PG w) 10 T.f_cuts.f T.f_cuts.fd ["net", "start", "goal"] (sp_cuts T.C) := Fun.okX T.f_cuts.F sc_cuts (fun vs H Q E h => SP.len (n := 3) (fun _ => rfl) h) (fun cdv A outer s H vs Q E hr h => ⟨_, (d_cuts T (ok_check_net T) (ok_reached T) (ok_reaching T) (ok_greatest T) T.f_cuts.f cdv A outer s H E hr), pu_cuts h⟩)
theorem ok_law_box (T : Txt K mg) : FnOk PG w K mg base (L2.CX PG w) 1 T.f_law_box.f T.f_law_box.fd ["_law_script", "_law_k"] (sp_law_box K T.C) := Fun.okX T.f_law_box.F sc_law_box (fun vs H Q E ⟨_, _, _, q, _⟩ => by rw [q]; rfl) (fun cdv A outer s H vs Q E hr h => ⟨_, (d_law_box T  T.f_law_box.f cdv A outer s H E hr).nox, pu_law_box h⟩)
theorem ok_law_take (T : Txt K mg) : FnOk PG w K mg base (L2.CX PG w) 1 T.f_law_take.f T.f_law_take.fd ["_law_box_here", "_law_many"] (sp_law_take T.C) := Fun.okX T.f_law_take.F sc_law_take (fun vs H Q E h => BP.len (n := 1) (fun _ => rfl) h) (fun cdv A outer s H vs Q E hr h => ⟨_, (d_law_take T  T.f_law_take.f cdv A outer s H E hr).nox, pu_law_take h⟩)
theorem ok_law_pick (T : Txt K mg) : FnOk PG w K mg base (L2.CX PG w) 2 T.f_law_pick.f T.f_law_pick.fd ["_law_box_here", "_law_some"] (sp_law_pick T.C) := Fun.okX T.f_law_pick.F sc_law_pick (fun vs H Q E h => BP.len (n := 1) (fun _ => rfl) h) (fun cdv A outer s H vs Q E hr h => ⟨_, (d_law_pick T (ok_law_take T) T.f_law_pick.f cdv A outer s H E hr).nox, pu_law_pick h⟩)
theorem ok_law_net (T : Txt K mg) : FnOk PG w K mg base (L2.CX PG w) 3 T.f_law_net.f T.f_law_net.fd ["_law_box_here", "_law_nodes", "_law_most"] (sp_law_net T.C) := Fun.okX T.f_law_net.F sc_law_net (fun vs H Q E h => BP.len (n := 2) (fun _ => rfl) h) (fun cdv A outer s H vs Q E hr h => ⟨_, (d_law_net T (ok_law_take T) (ok_law_pick T) T.f_law_net.f cdv A outer s H E hr).nox, pu_law_net h⟩)
theorem ok_law_gone (T : Txt K mg) : FnOk PG w K mg base (L2.CX PG w) 3 T.f_law_gone.f T.f_law_gone.fd ["_law_box_here", "_law_net_here", "_law_load", "_law_start_here", "_law_goal"] (sp_law_gone T.C) := Fun.okX T.f_law_gone.F sc_law_gone (fun vs H Q E ⟨_, _, _, _, _, _, _, _, _, q, _⟩ => by rw [q]; rfl) (fun cdv A outer s H vs Q E hr h => ⟨_, (d_law_gone T (ok_law_pick T) T.f_law_gone.f cdv A outer s H E hr).nox, pu_law_gone h⟩)
theorem ok_law_flow (T : Txt K mg) : FnOk PG w K mg base (L2.CX PG w) 4 T.f_law_flow.f T.f_law_flow.fd ["_law_box_here", "_law_net_here", "_law_start_here", "_law_goal"] (sp_law_flow T.C) := Fun.okX T.f_law_flow.F sc_law_flow (fun vs H Q E h => BP.len (n := 3) (fun _ => rfl) h) (fun cdv A outer s H vs Q E hr h => ⟨_, (d_law_flow T (ok_law_take T) (ok_law_gone T) T.f_law_flow.f cdv A outer s H E hr).nox, pu_law_flow h⟩)
theorem ok_law_more (T : Txt K mg) : FnOk PG w K mg base (L2.CX PG w) 1 T.f_law_more.f T.f_law_more.fd ["_law_net_here", "_law_load", "_law_node"] (sp_law_more T.C) := Fun.okX T.f_law_more.F sc_law_more (fun vs H Q E h => SP.len (n := 3) (fun _ => rfl) h) (fun cdv A outer s H vs Q E hr h => ⟨_, (d_law_more T  T.f_law_more.f cdv A outer s H E hr).nox, pu_law_more h⟩)
theorem ok_law_is_load (T : Txt K mg) : FnOk PG w K mg base (L2.CX PG w) 1 T.f_law_is_load.f T.f_law_is_load.fd ["_law_net_here", "_law_value"] (sp_law_is_load T.C) := Fun.okX T.f_law_is_load.F sc_law_is_load (fun vs H Q E h => SP.len (n := 2) (fun _ => rfl) h) (fun cdv A outer s H vs Q E hr h => ⟨_, (d_law_is_load T  T.f_law_is_load.f cdv A outer s H E hr).nox, pu_law_is_load h⟩)
theorem ok_law_is_flow (T : Txt K mg) : FnOk PG w K mg base (L2.CX PG w) 2 T.f_law_is_flow.f T.f_law_is_flow.fd ["_law_net_here", "_law_start_here", "_law_goal", "_law_value"] (sp_law_is_flow T.C) := Fun.okX T.f_law_is_flow.F sc_law_is_flow (fun vs H Q E h => SP.len (n := 4) (fun _ => rfl) h) (fun cdv A outer s H vs Q E hr h => ⟨_, (d_law_is_flow T (ok_law_more T) (ok_law_is_load T) T.f_law_is_flow.f cdv A outer s H E hr).nox, pu_law_is_flow h⟩)
theorem ok_law_worth (T : Txt K mg) : FnOk PG w K mg base (L2.CX PG w) 1 T.f_law_worth.f T.f_law_worth.fd ["_law_net_here", "_law_lot"] (sp_law_worth T.C) := Fun.okX T.f_law_worth.F sc_law_worth (fun vs H Q E h => SP.len (n := 2) (fun _ => rfl) h) (fun cdv A outer s H vs Q E hr h => ⟨_, (d_law_worth T  T.f_law_worth.f cdv A outer s H E hr).nox, pu_law_worth h⟩)
theorem ok_law_lots (T : Txt K mg) : FnOk PG w K mg base (L2.CX PG w) 2 T.f_law_lots.f T.f_law_lots.fd ["_law_net_here", "_law_start_here", "_law_ends"] (sp_law_lots T.C) := Fun.okX T.f_law_lots.F sc_law_lots (fun vs H Q E h => SP.len (n := 3) (fun _ => rfl) h) (fun cdv A outer s H vs Q E hr h => ⟨_, (d_law_lots T (ok_law_worth T) T.f_law_lots.f cdv A outer s H E hr).nox, pu_law_lots h⟩)
theorem ok_law_best (T : Txt K mg) : FnOk PG w K mg base (L2.CX PG w) 1 T.f_law_best.f T.f_law_best.fd ["_law_lots_here"] (sp_law_best T.C) := Fun.okX T.f_law_best.F sc_law_best (fun vs H Q E h => SP.len (n := 1) (fun _ => rfl) h) (fun cdv A outer s H vs Q E hr h => ⟨_, (d_law_best T  T.f_law_best.f cdv A outer s H E hr).nox, pu_law_best h⟩)
theorem ok_law_cuts_right (T : Txt K mg) : FnG PG w K mg base (L2.CX PG w) 11 T.f_law_cuts_right.f T.f_law_cuts_right.fd ["_law_net_here", "_law_handed", "_law_start_here", "_law_goal", "_law_lots_here", "_law_best_here"] (sp_law_cuts_right T.C) := Fun.okG T.f_law_cuts_right.F sc_law_cuts_right (fun vs H Q E h => SP.len (n := 6) (fun _ => rfl) h) (fun cdv A outer s H vs Q E hg hr h => ⟨_, (d_law_cuts_right T (ok_cut_worth T) (ok_cuts T) T.f_law_cuts_right.f cdv A outer s H E hg hr).nox, pu_law_cuts_right h⟩)
theorem ok_law_is_best (T : Txt K mg) : FnOk PG w K mg base (L2.CX PG w) 7 T.f_law_is_best.f T.f_law_is_best.fd ["_law_net_here", "_law_start_here", "_law_goal", "_law_best_here", "_law_told"] (sp_law_is_best T.C) := Fun.okX T.f_law_is_best.F sc_law_is_best (fun vs H Q E h => SP.len (n := 5) (fun _ => rfl) h) (fun cdv A outer s H vs Q E hr h => ⟨_, (d_law_is_best T (ok_flow_fits T) (ok_cut_worth T) (ok_walk T) (ok_reached T) (ok_law_more T) (ok_law_is_flow T) T.f_law_is_best.f cdv A outer s H E hr).nox, pu_law_is_best h⟩)
theorem ok_law_led_right (T : Txt K mg) : FnOk PG w K mg base (L2.CX PG w) 9 T.f_law_led_right.f T.f_law_led_right.fd ["_law_box_here", "_law_net_here", "_law_handed", "_law_start_here", "_law_goal", "_law_best_here"] (sp_law_led_right T.C) := Fun.okX T.f_law_led_right.F sc_law_led_right (fun vs H Q E h => BP.len (n := 5) (fun _ => rfl) h) (fun cdv A outer s H vs Q E hr h => ⟨_, (d_law_led_right T (ok_worth T) (ok_walk T) (ok_led_on T) (ok_law_flow T) (ok_law_is_flow T) (ok_law_is_best T) T.f_law_led_right.f cdv A outer s H E hr).nox, pu_law_led_right h⟩)
theorem ok_law_near (T : Txt K mg) : FnOk PG w K mg base (L2.CX PG w) 1 T.f_law_near.f T.f_law_near.fd ["_law_net_here", "_law_load", "_law_start_here"] (sp_law_near T.C) := Fun.okX T.f_law_near.F sc_law_near (fun vs H Q E h => SP.len (n := 3) (fun _ => rfl) h) (fun cdv A outer s H vs Q E hr h => ⟨_, (d_law_near T  T.f_law_near.f cdv A outer s H E hr).nox, pu_law_near h⟩)
theorem ok_law_many_right (T : Txt K mg) : FnG PG w K mg base (L2.CX PG w) 11 T.f_law_many_right.f T.f_law_many_right.fd ["_law_box_here"] (sp_law_many_right T.C) := Fun.okG T.f_law_many_right.F sc_law_many_right (fun vs H Q E h => BP.len (n := 0) (fun _ => rfl) h) (fun cdv A outer s H vs Q E hg hr h => ⟨_, (d_law_many_right T (ok_greatest T) (ok_cuts T) (ok_law_net T) (ok_law_more T) (ok_law_is_flow T) (ok_law_worth T) (ok_law_near T) T.f_law_many_right.f cdv A outer s H E hg hr).nox, pu_law_many_right h⟩)
end
end DL
/-! a shown text's signs are signs -/
namespace DL
open PySem L2
abbrev sok (x : Str) : Prop := PyData.strOk x = true
theorem sok_app {a b : Str} (h : sok a) (k : sok b) : sok (a ++ b) := by
  unfold sok PyData.strOk at *
  show (a.cps ++ b.cps).all _ = true
  rw [Array.all_append, h, k]; rfl
theorem sok_of (s : String) : sok (Str.ofString s) := by
  unfold sok PyData.strOk
  rw [Str.ofString_eq_toList]
  simp only [List.all_toArray, List.all_map, List.all_eq_true, Function.comp_apply, decide_eq_true_eq]
  intro c _
  have h := c.valid
  unfold UInt32.isValidChar Nat.isValidChar at h
  show c.val.toNat < 0x110000
  omega
theorem sok_from : ∀ (ts : List Str) (k : Nat) (acc : Str), sok acc → (∀ t ∈ ts, sok t) → sok (textFrom k acc ts)
  | [], _, _, h, _ => h
  | t :: ts, k, acc, h, ht => by
    show sok (textFrom (k + 1) (acc ++ (if k > 0 then ", " else "" : String) ++ t) ts)
    refine sok_from ts _ _ (sok_app (sok_app h ?_) (ht t List.mem_cons_self)) fun u hu => ht u (List.mem_cons_of_mem _ hu)
    exact sok_of _
theorem sok_join : ∀ (ts : List Str), (∀ t ∈ ts, sok t) → sok (Str.join ", " ts)
  | [], _ => by decide +kernel
  | [x], h => h x List.mem_cons_self
  | x :: y :: ts, h => by
    show sok (x ++ ", " ++ Str.join ", " (y :: ts))
    exact sok_app (sok_app (h x List.mem_cons_self) (sok_of _)) (sok_join (y :: ts) fun u hu => h u (List.mem_cons_of_mem _ hu))
theorem sok_list {ts : List Str} (h : ∀ t ∈ ts, sok t) : sok (listText ts) := sok_app (sok_from ts 0 _ (sok_of _) h) (sok_of _)
theorem sok_tuple {ts : List Str} (h : ∀ t ∈ ts, sok t) : sok (tupleText ts) := by
  unfold tupleText
  exact sok_app (sok_app (sok_of _) (sok_join ts h)) (sok_of _)
mutual
/-- no text, or the text '0' -/
def plainD : PyData → Bool
  | .none => true
  | .bool _ => true
  | .int _ => true
  | .str x => decide (x = Str.ofString "0")
  | .list ys => plainEach ys
  | .tuple ys => plainEach ys
  | .dict _ => false
def plainEach : List PyData → Bool
  | [] => true
  | x :: xs => plainD x && plainEach xs
end
mutual
theorem sok_shown : ∀ (d : PyData), plainD d = true → sok d.shown
  | .none, _ => sok_of _
  | .bool b, _ => by cases b <;> exact sok_of _
  | .int i, _ => sok_of _
  | .str x, h => by
    have : x = Str.ofString "0" := by simpa [plainD] using h
    subst this
    show sok (reprText _)
    decide +kernel
  | .list xs, h => by
    show sok (listText (PyData.shownAll xs))
    exact sok_list (sok_shownAll xs (by simpa [plainD] using h))
  | .tuple xs, h => by
    show sok (tupleText (PyData.shownAll xs))
    exact sok_tuple (sok_shownAll xs (by simpa [plainD] using h))
  | .dict _, h => by simp [plainD] at h
theorem sok_shownAll : ∀ (xs : List PyData), plainEach xs = true → ∀ t ∈ PyData.shownAll xs, sok t
  | [], _, t, ht => by simp [PyData.shownAll] at ht
  | x :: xs, h, t, ht => by
    simp only [plainEach, Bool.and_eq_true] at h
    simp only [PyData.shownAll, List.mem_cons] at ht
    rcases ht with rfl | ht
    · exact sok_shown x h.1
    · exact sok_shownAll xs h.2 t ht
end
end DL
/-! isinstance of a caught exception that bears a dict -/
namespace DL
open PySem PySem.Spec PyProof.Rows L2
structure XcC (K : PySem.W.Frag) (D : Addr) : Prop where
  cl : (PySem.W.clsIn K D).isSome = true
  ga : PySem.W.findIn K (.ref D) "__getattribute__" = some (some (.builtin "BaseException.__getattribute__"))
  gg : PySem.W.findIn K (.ref D) "__getattr__" = some none
  sb : PySem.W.subIn K (.ref D) (.type "BaseException") = some true
  ca : PySem.W.findIn K (.ref D) "__class__" = some (some (.builtin "object.__class__"))
  sp : PySem.W.specialIn K (.builtin "object.__class__") "__get__" = some (some (.builtin "getset_descriptor.__get__"))
  tk : PySem.W.takesIn K (.builtin "object.__class__") = some true
  ob : PySem.W.mroIn K D (.type "object") = some true
def rIsX (K : PySem.W.Frag) (D a : Addr) (d : Option Addr) : List V → Hp → VK → Prop := fun xs H Q => ∃ (c : V) (cv : Value) (b : Bool) (dd : Addr) (fs : List (Str × V)), xs = [.ref a, c] ∧ (∀ u, RelV c u → u = cv) ∧ d = some dd ∧ H dd = some (.xd fs) ∧ PySem.W.kitOne K (.ref D) cv = some b ∧ Q (.bl b) H
theorem call_isX {X : Cx} {a D : Addr} {oe : Obj} {d : Option Addr} {pn : List (Addr × Obj)} (C : XcC X.K D) (hz : Zc (.ref D) d oe) (hf : ∃ vs, oe.data = .fields vs) : CallR (X.suite a ((a, oe) :: pn)) (.builtin "isinstance") (rIsX X.K D a d) := by
  intro pins s σ H xs us Q I r
  intro h
  obtain ⟨c, cv, b, dd, fs, rfl, hcv, ed, ea, e, q⟩ := h
  subst ed
  cases r with
  | cons rx r =>
    cases r with
    | cons rt r =>
      cases r
      cases rx
      have ec := hcv _ rt
      subst ec
      have hget := (I.pin (a, oe) (List.mem_append.mpr (.inl List.mem_cons_self))).1
      obtain ⟨vs, hv⟩ := hf
      have hx : ObjOk X.prog X.w H s.heap dd (.xd fs) := I.hok dd _ ea
      obtain ⟨mA, hns, _⟩ := hx
      obtain ⟨od, ho, _⟩ := lookIn_ns hns
      have J : PySem.W.InstAt s.heap a oe D (some od) := ⟨hget, hz.1, by unfold PySem.W.notCls; rw [hv] <;> rfl, by rw [hz.2]; exact ho⟩
      exact PySem.W.kia_one (PySem.W.kitx_exc C.cl C.ga C.gg C.sb C.ca C.sp C.tk C.ob) I.kIn J e (fun z => nomatch z) fun tk => ⟨.bl b, H, I.kept (t' := tk) fun _ _ z => z, rfl, q⟩
end DL
/-! what a call is refused with: the def that hears it -/
namespace DL
open PySem PySem.Spec PyProof.Rows L2
abbrev s_law_heard : Stmt := topS 47
abbrev NH : List Str := ["_law_ask", "fault"]
theorem sc_law_heard : FnScope NH ["_law_ask"] (defScope s_law_heard) := ⟨rfl, rfl, rfl, by decide +kernel, rfl, by decide +kernel, by decide +kernel⟩
/-- the classes, as the suite asks them -/
structure HeC (K : PySem.W.Frag) (mg : Str → Option Value) (C CO : Addr) : Prop where
  gR : mg "Refused" = some (.ref C)
  gO : mg "OutError" = some (.ref CO)
  xf : XfC K C
  no : PySem.W.findIn K (.ref C) "at" = some none
  xc : XcC K C
  is : PySem.W.kitOne K (.ref C) (.ref CO) = some true
  ex : PySem.W.exmOne K (.ref C) (.ref C) = some true
/-- the refusal of w at H -/
def Rz (C : Addr) (H : Hp) (w : V) (E : XK) : Prop := ∀ dx H', Ex H H' → H dx = none → H' dx = some (.xd [("at", w)]) → E (.ref C) (some dx) H'
theorem takes_len {X : Cx} {W : WX} (t : Takes X W) : Takes X (fun cls d σ H => σ.length = X.N.length → W cls d σ H) := fun u s' ⟨a, B, sI, pins, σ, H, cls, d, e, I, nb, up, sky, na, os, ag, w⟩ =>
  t u s' ⟨a, B, sI, pins, σ, H, cls, d, e, I, nb, up, sky, na, os, ag, w I.len⟩
/-- what is told of it -/
def refD (d : PyData) : List V := [.str (Str.ofString "refused"), .str d.shown, .bl true]
/-- the call of what is asked: it is refused -/
def tAct (C : Addr) (f : Addr) (L : Hp → Prop) (w : V) (E : XK) : TE := fun σ H _ => σ[0]? = some (some (.ref f)) ∧ L H ∧ Rz C H w E
def tSuite (K : PySem.W.Frag) (C CO a : Addr) (d : Option Addr) : TS := tRet (tTup (tCons (tC (.str (Str.ofString "refused"))) (tCons (tCB rRepr (tCons (tXf a (.ref C) d C "at" (tVar 1)) tNil)) (tCons (tCB (rIsX K C a d) (tCons (tVar 1) (tCons (tC (.ref CO)) tNil))) tNil))))
abbrev hCx (w : World) (K : PySem.W.Frag) (mg : Str → Option Value) (base : Heap) (g : Addr) (cdg : Value) (A : Around) (outer : List Env) (s : Shared) (H : Hp) (E : XK) : Cx := cxOf (L2.CX PG w) PG w K mg base NH "_law_heard" (defScope s_law_heard) g cdg A outer s H E
section
variable {X : Cx} {b : List Stmt} {t t' : TS}
theorem pss_imp (h : PSs X b t) (i : ∀ D σ H, t' D σ H → t D σ H) : PSs X b t' := ⟨fun pins s σ H D I q => h.run pins s σ H D I (i D σ H q)⟩
theorem pss_imp' (h : ∀ (pins : List (Addr × Obj)) (s : Shared) (σ : L2.St) (H : Hp) (D : L2.Ends), Inv X pins σ H s → t D σ H → ∃ t2, PSs X b t2 ∧ t2 D σ H) : PSs X b t := ⟨fun pins s σ H D I q => let ⟨_, h1, h2⟩ := h pins s σ H D I q; h1.run pins s σ H D I h2⟩
end
section
variable {wd : World} {K : PySem.W.Frag} {mg : Str → Option Value} {base : Heap} {g : Addr} {cdg : Value} {A : Around} {outer : List Env} {s : Shared} {H : Hp} {E : XK} {C CO f : Addr} {L : Hp → Prop} {w : V} {k : Nat}
theorem d_law_heard (T : Txt K mg) (hc : HeC K mg C CO) (hG : A.guards = some []) (hr : Room k (A.deeper (envOfC "_law_heard" (defScope s_law_heard) s.heap.objs.size g cdg)))
    (act : ∀ (W : WX) (pn : List (Addr × Obj)) (xe : Value → Shared → Prop) (E2 : XK) (p1 p2 : Pos), Takes ((hCx wd K mg base g cdg A outer s H E).tr pn xe) W → (∀ cls d σ' H', E2 cls d H' → W cls d σ' H') → PE ((hCx wd K mg base g cdg A outer s H E).tr pn xe) (.Call (.Name "_law_ask" p1) [] [] p2) (tAct C f L w E2)) :
    PSs (hCx wd K mg base g cdg A outer s H E) (defBody s_law_heard) (fun D σ H => σ[0]? = some (some (.ref f)) ∧ L H ∧ Rz C H w fun _ d H' => ∀ σ' : L2.St, σ'.length = 2 → ∀ a, H' a = none → tSuite K C CO a d { nx := fun σ' H' => D.nx (σ'.set 1 none) H', rt := D.rt, bk := fun σ' H' => D.bk (σ'.set 1 none) H', ct := fun σ' H' => D.ct (σ'.set 1 none) H' } (σ'.set 1 (some (.ref a))) H') := by
  refine pss_imp (pss_one (ps_try_as (X := hCx wd K mg base g cdg A outer s H E) (x := "Refused") (n := "fault") (c := .ref C) (i := 1) (Wout := fun _ _ _ _ => False)
    (tb := fun W D σ H => ∃ E2 : XK, (∀ cls d σ' H', E2 cls d H' → List.length σ' = 2 → W cls d σ' H') ∧ tAct C f L w E2 σ H D.rt)
    (ts := fun a cls d D σ H => cls = .ref C ∧ tSuite K C CO a d D σ H)
    rfl rfl sc_law_heard.nd rfl rfl ⟨rfl, rfl, .inl hc.gR⟩ LamX.takes0 (fun W pn xe tk _ => ?_) (fun a oe cls d pn hz hv => ?_))) ?_
  · refine pss_imp' fun pins s' σ' H' D I ⟨E2, h1, h2⟩ => ?_
    exact ⟨_, pss_one (ps_ret (pe_tup (pa_cons pe_str (pa_cons (pe_callB (call_repr hG hr.units) (by rfl) T.mg_repr bt_repr (pa_cons (act _ pn xe E2 _ _ (takes_len tk) h1) pa_nil)) pa_nil)))), h2⟩
  · refine pss_imp' fun pins s' σ' H' D I ⟨e, h2⟩ => ?_
    subst e
    exact ⟨_, pss_one (ps_ret (pe_tup (pa_cons pe_str (pa_cons (pe_callB (call_repr hG hr.units) (by rfl) T.mg_repr bt_repr (pa_cons (pe_xf hc.xf hc.no hz hv (pv 1)) pa_nil)) (pa_cons (pe_callB (call_isX hc.xc hz hv) (by rfl) T.mg_isinstance bt_isinstance (pa_cons (pv 1) (pa_cons (pe_glob (v := .ref CO) rfl hc.gO rfl) pa_nil))) pa_nil))))), h2⟩
  · intro D σ H ⟨h0, hL, hz⟩
    refine ⟨fun cls d H' => ∀ σ', List.length σ' = 2 → wAs K (.ref C) 1 (fun a cls d D σ H => cls = .ref C ∧ tSuite K C CO a d D σ H) (fun _ _ _ _ => False) D cls d σ' H', fun cls d σ' H' h => h σ', h0, hL, fun dx H' e hd hx σ' hl => ⟨true, hc.ex, fun _ a na => ⟨rfl, hz dx H' e hd hx σ' hl a na⟩, fun z => nomatch z⟩⟩
theorem suite_ok {a dx : Addr} {d : PyData} {D : L2.Ends} {σ : L2.St} (hc : HeC K mg C CO) (h1 : σ[1]? = some (some (.ref a))) (hx : H dx = some (.xd [("at", w)])) (hd : Dg H w d) (hs : Shw d) (k : ∀ t, H t = none → D.rt (.ref t) (upd H t (.tup (refD d)))) : tSuite K C CO a (some dx) D σ H :=
  ⟨.ref a, h1, rfl, rfl, dx, _, w, rfl, hx, rfl, w, d, rfl, hd, hs, .ref a, h1, .ref CO, .ref CO, true, dx, _, rfl, fun u r => r, rfl, hx, hc.is, (show 3 ≤ sizeLine by decide), k⟩
theorem heard_run (T : Txt K mg) (hc : HeC K mg T.C CO) {Q : VK} (hG : A.guards = some []) (hr : Room (k + 1) A) (e0 : Env0 PG wd K mg base A outer s H)
    (act : ∀ cdg, Room k (A.deeper (envOfC "_law_heard" (defScope s_law_heard) s.heap.objs.size T.f_law_heard.f cdg)) → ∀ (W : WX) (pn : List (Addr × Obj)) (xe : Value → Shared → Prop) (E2 : XK) (p1 p2 : Pos), Takes ((hCx wd K mg base T.f_law_heard.f cdg A outer s H E).tr pn xe) W → (∀ cls d σ' H', E2 cls d H' → W cls d σ' H') →
      PE ((hCx wd K mg base T.f_law_heard.f cdg A outer s H E).tr pn xe) (.Call (.Name "_law_ask" p1) [] [] p2) (tAct T.C f L w E2)) (hL : L H)
    (hq : ∀ dx H', Ex H H' → H dx = none → H' dx = some (.xd [("at", w)]) → ∃ d, Dg H' w d ∧ Shw d ∧ ∀ t, H' t = none → Q (.ref t) (upd H' t (.tup (refD d)))) :
    codeAny (model PG wd) A (.call (.ref T.f_law_heard.f) ⟨[.ref f], []⟩) (CR (L2.CX PG wd) outer PG wd H s Q E) s := by
  have kin : K.In s.heap := e0.mod.kin.keeps fun b o e => (e0.bs b o e).1
  have bind := T.f_law_heard.b s [.ref f] kin rfl
  obtain ⟨oc, od, kV, doc, pm, an, cdv, ct, osl, hfd, lk, hcd⟩ := T.f_law_heard.F.ex
  rw [hfd] at bind lk
  refine LamX.run_ofS (N := NH) (ps := ["_law_ask"]) (us := [.ref f]) (vs := [.ref f]) lk hcd sc_law_heard hr e0 bind (.cons rfl .nil) rfl fun hr' => ⟨_, d_law_heard T hc hG hr' (act cdv hr'), rfl, hL, fun dx H' e hd hx σ' hl a na => ?_⟩
  obtain ⟨d, h1, h2, h3⟩ := hq dx H' e hd hx
  exact suite_ok hc (by rw [List.getElem?_set_self (by omega)]) hx h1 h2 h3
end
end DL
/-! a comprehension that finds nothing; its condition may know the state in which it began -/
namespace DL
open PySem PySem.Spec PyProof.Rows L2
/-- the reading: J is walked, no item is taken; the condition's reading may lean on the slots at the beginning -/
def tLcN (wi : TI) (g : TG) (tt : L2.St → TT) (vs : List Nat) : TE := fun σ H Q => wi σ H fun J H1 => ∀ D, H1 D = none → ∃ W : Nat → Nat → Hp → Prop, (∃ m, W 0 m (upd H1 D (.lst []))) ∧ ∀ i m H2, W i m H2 →
  (J.stop i H2 ∧ Q (.ref D) H2) ∨ (J.go i H2 ∧ ∃ N : Hp → Prop, (∀ H3, N H3 → ∃ k, k < m ∧ W (i + 1) k H3) ∧ ∀ x H3, J.yld i H2 x H3 → g x (wipe σ vs) H3 fun σ4 H4 => wipe σ4 vs = wipe σ vs ∧ tt σ σ4 H4 fun b H5 => b = false ∧ N H5)
section
variable {X : Cx}
theorem pe_lcN {elt tg iter : Expr} {ifs : List Expr} {scope : Scope} {own : List (Str × Nat)} {pos : Pos} {wi : TI} {g : TG} {tt : L2.St → TT} (hc : X.calm = true) (hN : X.N.Nodup) (hi : PI X tg iter wi) (ok : BlkOk X.N X.env.scope scope own)
    (hg : ∀ (s : Shared) (H : Hp) (C : Addr) (cl : List (Str × Addr)) (fp : List Addr), L2.PG (X.blk s H scope (compEnvC scope cl C X.env) fp) tg g)
    (ht : ∀ (pins : List (Addr × Obj)) (σ : L2.St) (s : Shared) (H : Hp), Inv X pins σ H s → ∀ (C : Addr) (cl : List (Str × Addr)) (fp : List Addr), (∀ b ∈ fp, FpOk X pins H b) → PTs (X.blk s H scope (compEnvC scope cl C X.env) fp) ifs (tt σ))
    (hs : ∀ x, foldedSetIterable iter X.env x = pure x := by intro _; rfl) : PE X (.ListComp elt [⟨tg, iter, ifs, 0⟩] scope pos) (tLcN wi g tt (own.map (·.2))) := by
  constructor
  intro pins s σ H Q I h
  have fr : ∀ y ∈ scope.names, y.2 = .free → ∃ c, X.env.cells.lookup y.1 = some c := fun y hy e => I.ok.has _ (ok.free y hy e)
  rw [eval_ListComp]
  refine wpAny_comprehension_free (use := none) rfl hs (closure_ok fr) ok.kind (fun y hy e => (ok.uniq y hy).trans (congrArg some e)) (thn (hi.run pins s σ H _ I h) fun xv s1 hx => thn hx fun itv s2 ⟨it, fp, tn, J, H2, e, I2, T, t2, f2, q⟩ => ?_)
  cases e
  refine wpAny_newObj_type (newEnv_comp ?_) (Nat.zero_le sizeLine)
  have nD := I2.hok.fresh (Nat.le_refl s2.heap.objs.size)
  obtain ⟨W, ⟨m0, w0⟩, turn⟩ := q _ nD
  generalize ha3 : ({ s2 with heap := s2.heap.push { cls := .type "list", data := .seq ([] : List Value).toArray } } : Shared) = s3
  have e3 : s3.heap = s2.heap.push { cls := .type "list", data := .seq ([] : List Value).toArray } := by rw [← ha3]
  have up : ∀ b o, s2.heap.get? b = some o → s3.heap.get? b = some o := fun b o z => by rw [e3]; exact Heap.get?_push_of_some _ z
  have I3 : Inv X pins σ (upd H2 s2.heap.objs.size (.lst [])) s3 := by
    have z := I2.laid (t' := s2.toks) (h' := s3.heap) (a := s2.heap.objs.size) (o := .lst []) up (Nat.le_refl _) ⟨Nat.zero_le _, [], 0, .nil, by rw [e3]; exact Heap.get?_push_size _ rfl⟩
    rw [← ha3] at z ⊢
    exact z
  have old : ∀ b ∈ fp, b < s2.heap.objs.size := fun b hb => let ⟨_, z, _⟩ := T.obj _ _ t2 b hb; Heap.lt_size z
  have f3 : ∀ b ∈ fp, FpOk X pins (upd H2 s2.heap.objs.size (.lst [])) b ∧ b < s3.heap.objs.size := fun b hb => by
    refine ⟨⟨?_, (f2 b hb).2⟩, ?_⟩
    · rw [upd_ne (Nat.ne_of_lt (old b hb))]; exact (f2 b hb).1
    · rw [e3, Heap.size_push]; exact Nat.lt_succ_of_lt (old b hb)
  have t3 : tn 0 s3.heap := T.keep _ _ _ t2 fun b _ o z => up b o z
  have I4 := block_start (pins := pins) I3 ok hN f3
  have gg := hg s3 (upd H2 s2.heap.objs.size (.lst [])) s3.heap.objs.size (cellsFrom (s3.heap.objs.size + 1) scope.names (cloFrom X.env.cells scope.names [])) fp
  have cc := ht _ _ _ _ I3 s3.heap.objs.size (cellsFrom (s3.heap.objs.size + 1) scope.names (cloFrom X.env.cells scope.names [])) fp fun b hb => (f3 b hb).1
  generalize hce : compEnvC scope (cellsFrom (s3.heap.objs.size + 1) scope.names (cloFrom X.env.cells scope.names [])) s3.heap.objs.size X.env = ce at I4 gg cc
  have cL : ce.locals = s3.heap.objs.size := by rw [← hce]; rfl
  generalize hH3 : upd H2 s2.heap.objs.size (.lst []) = H3 at I3 I4 gg cc w0 f3
  generalize hs4 : ({ s3 with heap := pushCells (s3.heap.push { cls := .type "dict", data := .dict #[] }) scope.names } : Shared) = s4 at I4
  have t4 : tn 0 s4.heap := T.keep _ _ _ t3 fun b _ o z => by rw [← hs4]; exact pushCells_keeps _ _ _ _ (Heap.get?_push_of_some _ z)
  let B : Cx := X.blk s3 H3 scope ce fp
  have fpB : ∀ {σ' : L2.St} {H' : Hp} {s' : Shared}, Inv B [] σ' H' s' → (∀ b ∈ fp, H' b = none) → ∀ b ∈ fp, FpOk B [] H' b := fun J hn b hb =>
    ⟨hn b hb, (J.ok.exf b hb).1, J.ok.exfs b hb, .inl hb, fun x c z => (J.ok.exf b hb).2 x c z, fun p hp => nomatch (show p ∈ ([] : List (Addr × Obj)) from hp)⟩
  have loop : codeAny (model X.prog X.w) X.A (.compLoop (.ListComp elt [⟨tg, iter, ifs, 0⟩] scope pos) 0 (.ref it) (.ref s2.heap.objs.size) ce) (compPost (model X.prog X.w) X.A X.xe none (EP X pins σ Q) (.ref s2.heap.objs.size) s3.heap.objs.size) s4 := by
    refine compLoop_any (fun n s' => ∃ i H', Inv B [] (wipe σ (own.map (·.2))) H' s' ∧ tn i s'.heap ∧ (∀ b ∈ fp, H' b = none) ∧ W i n H') (fun n s5 ⟨i, H5, I5, t5, n5, w5⟩ => ?_) m0 ⟨0, H3, I4, t4, fun b hb => (f3 b hb).1.1, w0⟩
    rcases turn i n H5 w5 with ⟨stop, qq⟩ | ⟨go, N, hN', step⟩
    · refine thnF (T.done B rfl rfl rfl hc i [] s5 _ H5 (fun _ _ => False) I5 (fpB I5 n5) t5 stop) fun r s6 ⟨hr, I6⟩ => ?_
      cases hr
      have I7 : Inv X pins σ H5 s6 := I3.call' (ch := fp) I6.os I6.base I6.hok I6.bare fun b hb => (fun z => ⟨z.2.2.2.1, z.2.1, z.2.2.2.2⟩) (f3 b hb).1
      have nC : H5 s3.heap.objs.size = none := by rw [← cL]; exact I6.free
      obtain ⟨m, hn, _⟩ := I6.loc
      refine ⟨m, by rw [← cL]; exact hn, fun h' sb => ?_⟩
      obtain ⟨a0, a1, a2, a3, a4, a5⟩ := I3.fpOk (Nat.le_refl _) nC
      exact ⟨.ref s2.heap.objs.size, H5, I7.turned (t' := s6.toks) (fun b o hb z => (sb.2 b hb).trans z) a0 a1 a3 a4 a5, rfl, qq⟩
    · refine thnF (T.item B rfl rfl rfl hc i [] s5 _ H5 (fun _ _ => False) I5 (fpB I5 n5) t5 go) fun r s6 ⟨u, hr, h6⟩ => ?_
      cases hr
      refine thnF h6 fun _ s7 ⟨x, H7, I7, r7, y7, t7, n7⟩ => ?_
      have P7 := I7.pinned (fpB I7 n7) (T.obj _ _ t7)
      refine thnF (gg.run _ s7 _ H7 x u _ P7 r7 (step x H7 y7)) fun _ s8 ⟨σ8, H8, I8, hw, q8⟩ => ?_
      refine thnF (cc.run _ s8 σ8 H8 _ I8 q8) fun b s9 ⟨H9, I9, hb, nx⟩ => ?_
      cases hb
      obtain ⟨k, hk, w9⟩ := hN' H9 nx
      have pf : ∀ b ∈ fp, ∀ o, s7.heap.get? b = some o → s9.heap.get? b = some o ∧ H9 b = none := fun b hb o z =>
        have y := I9.pin (b, o) (List.mem_append_right _ (List.mem_append_right _ (mem_pinsAt hb z)))
        ⟨y.1, y.2.1⟩
      refine ⟨k, hk, i + 1, H9, (I9.unpinned (pins := [])).weak (by rw [← hw, wipe_length]) (fun j v z => ?_), T.keep _ _ _ t7 fun b hb o z => (pf b hb o z).1, fun b hb => ?_, w9⟩
      · rw [← hw] at z
        exact (wipe_some z).1
      · obtain ⟨o, z, _⟩ := T.obj _ _ t7 b hb
        exact (pf b hb o z).2
  have fin := codeAny_compStart_list loop (T.self X.A 0 _ _ _ t4 loop)
  rw [← hce] at fin
  exact fin
end
end DL
/-! lambdas without parameters as values: made, kept in sight, called by the def that hears -/
namespace DL
open PySem PySem.Spec PyProof.Rows L2
/-- a lambda of the text, with its body's reading -/
structure LamR where
  params : Arguments
  body : Expr
  scope : Scope
  pos : Pos
  t : XK → TE
abbrev lqual (env : Env) : Str := env.qual ++ "<lambda>"
abbrev lamObj (env : Env) (l : LamR) (pm ctv : Value) (c : Addr) : Obj := PySem.W.kla_obj "<lambda>" (lqual env) l.params l.body l.scope (cloFrom env.cells l.scope.names []) pm c ctv
def LamO (f : Addr) (o : Obj) : HO := .ext fun h => h.get? f = some o
/-- the codes that a table tells are known -/
def TabK (q : Str) (H : Hp) (ps : Array Value) : Prop := TriplesOk ps.toList ∧ ∀ (pos : Pos) (cv : Value), codeAmong pos ps.toList = some cv → ∃ c, cv = .ref c ∧ H c = some (LamX.CodeO c q)
/-- the table behind a new code -/
def tabMore (ps : Array Value) (pos : Pos) (c : Addr) : Array Value := ps ++ #[rawInt pos.line, rawInt pos.col, .ref c]
def tLam (env : Env) (P : Addr) (l : LamR) : TE := fun _ H Q => ∃ ps, H P = some (.tbl ps) ∧ TabK (lqual env) H ps ∧
  (∀ f c pm ctv, codeAmong l.pos ps.toList = some (.ref c) → H f = none → Q (.ref f) (upd H f (LamO f (lamObj env l pm ctv c)))) ∧
  (∀ f c pm ctv, codeAmong l.pos ps.toList = none → H f = none → H c = none → f ≠ c → f ≠ P → Q (.ref f) (upd (upd (upd H P (.tbl (tabMore ps l.pos c))) c (LamX.CodeO c (lqual env))) f (LamO f (lamObj env l pm ctv c))))
section
variable {X : Cx}
theorem lamO_ok {P : Program} {w : World} {H : Hp} {h : Heap} {f : Addr} {o : Obj} (e : h.get? f = some o) : ObjOk P w H h f (LamO f o) := ⟨e, ⟨o, e⟩, fun _ _ a st => st _ a⟩
theorem pe_lam {P c : Addr} {l : LamR} (TB : LamX.TabB X.base X.mg c P) (hcode : X.env.code = .ref c) (hdef : defaultsOf l.params X.env = ([], [])) (L : LamX.LamS X.env.scope l.scope) : PE X (.Lambda l.params l.body l.scope l.pos) (tLam X.env P l) := by
  refine ⟨fun pins s σ H Q I ⟨ps, hP, ⟨tr, tk⟩, old, new⟩ => PySem.W.kla_eval hdef ?_⟩
  have cl := closure_ok (L.has I.ok)
  have gl := I.mod.glob.keeps I.bk
  have bm := TB.bm.keeps I.bk
  have cd := TB.code.keeps I.bk
  have at_ : s.heap.get? P = some { cls := .none, data := .fields ps } := I.hok P _ hP
  cases hc : codeAmong l.pos ps.toList with
  | some cv =>
    obtain ⟨c1, e1, e2⟩ := tk _ _ hc
    subst e1
    refine PySem.W.kla_makeFunctionHit (mg := X.mg) cl I.ok.glob gl hcode cd at_ tr hc bm fun ctv h' t' hk hz => ?_
    have I1 : Inv X pins σ H { s with heap := h', toks := t' } := I.kept hk
    have nf := I1.hok.fresh (Nat.le_refl h'.objs.size)
    exact ⟨.ref h'.objs.size, _, I1.laid (t' := t') (fun b o z => Heap.get?_push_of_some _ z) (Nat.le_refl _) (lamO_ok (o := lamObj X.env l ((X.mg "__name__").getD .none) ctv c1) (Heap.get?_push_size _ rfl)), rfl, old _ _ _ _ hc nf⟩
  | none =>
    refine PySem.W.kla_makeFunction (mg := X.mg) cl I.ok.glob gl hcode cd at_ tr hc TB.gP bm fun c1 ctv h' t' hk hge hlt hrec htb => ?_
    obtain ⟨c2, oc, vs, t2, e2, hoc, hd, hv⟩ := hrec
    cases e2
    have I1 := LamX.inv_table (t' := t') (more := #[rawInt l.pos.line, rawInt l.pos.col, .ref c1]) I hP (fun b o nb z => hk b o nb z) htb hge ⟨oc, vs, t2, hoc, hd, hv⟩
    have nf0 : H h'.objs.size = none := I.hok.fresh (Nat.le_trans hge (Nat.le_of_lt hlt))
    have nP : h'.objs.size ≠ P := Nat.ne_of_gt (Nat.lt_of_lt_of_le (Heap.lt_size at_) (Nat.le_trans hge (Nat.le_of_lt hlt)))
    exact ⟨.ref h'.objs.size, _, I1.laid (t' := t') (fun b o z => Heap.get?_push_of_some _ z) (Nat.le_refl _) (lamO_ok (o := lamObj X.env l ((X.mg "__name__").getD .none) ctv c1) (Heap.get?_push_size _ rfl)), rfl, new _ _ _ _ hc nf0 (I.hok.fresh hge) (Nat.ne_of_gt hlt) nP⟩
/-! ### the call of a lambda -/
structure LamK (X : Cx) (k : Nat) (l : LamR) : Prop where
  L : LamX.LamS X.env.scope l.scope
  bind : ∀ (q : Str) (cl : List (Str × Addr)) (pm cv ctv : Value), bindArgs (PySem.W.kla_fn "<lambda>" q l.params l.body l.scope cl pm cv ctv) ⟨[], []⟩ = pure []
  run : ∀ (A : Around) (outer : List Env) (s : Shared) (H : Hp) (E : XK) (f c : Addr), Room k (A.deeper (LamX.lamEnv X l.scope s.heap.objs.size f c)) → PE (LamX.lamCx X A outer s H E l.scope f c) l.body (l.t E)
theorem lam_call {pins : List (Addr × Obj)} {σ : L2.St} {H HZ : Hp} {s s1 : Shared} {A : Around} {outer : List Env} {k : Nat} {l : LamR} {f c : Addr} {pm ctv : Value} {E : XK} {Q : VK} (I : Inv X pins σ H s) (lk : LamK X k l) (e0 : Env0 X.prog X.w X.K X.mg X.base A outer s1 HZ) (hr : Room (k + 1) A)
    (un : Un (frs X.stack) [] H HZ s.heap s1.heap) (hf : HZ f = some (LamO f (lamObj X.env l pm ctv c))) (hc : HZ c = some (LamX.CodeO c (lqual X.env))) (h : l.t E σ HZ Q) :
    codeAny (model X.prog X.w) A (.call (.ref f) ⟨[], []⟩) (CR (L2.CX X.prog X.w) outer X.prog X.w HZ s1 Q E) s1 := by
  obtain ⟨of1, _⟩ := e0.hok f _ hf
  obtain ⟨⟨oc, vs, t, c1, c2, c3⟩, _, _⟩ := e0.hok c _ hc
  have lim : s1.heap.NoLimit := e0.mod.nolimit.keeps fun b o e => (e0.bs b o e).1
  refine PySem.W.kla_callFunE hr.depth of1 rfl lk.L.co lk.L.gen rfl ⟨c, oc, vs, t, rfl, c1, c2, c3⟩ ?_
  rw [lk.bind]
  refine wpAny_pure (wpAny_newFunctionEnv (fun y hy => (lk.L.own y hy).2) (fun y hy => nomatch hy) (fun h1 ns same => ⟨lim.fresh _ same, ?_⟩) lk.L.kind)
  have stay : ∀ b o, s1.heap.get? b = some o → h1.get? b = some o := fun b o z => same.extBut b o (Nat.ne_of_lt (Heap.lt_size z)) (Heap.get?_push_of_some _ z)
  have J := LamX.lam_start2 (c' := c) (f := f) (E := E) (tk := s1.toks + ([] : List (Str × Value)).length) I lk.L e0 hr.hd un ns stay
  refine PySem.W.kla_codeExpr (wpAny_mono ((lk.run A outer s1 HZ E f c (hr.deeper _)).run [] _ _ HZ Q J h) (fun v s' ⟨w', H', J', rv, q⟩ => ⟨w', H', J'.os, J'.bare, J'.base, J'.hok, rv, q⟩) fun e s' hq => hq)
/-- what is known of the lambda at f where it is heard: called at H it is refused with w -/
def LamAt (C : Addr) (env : Env) (σ : L2.St) (l : LamR) (f c : Addr) (pm ctv : Value) (w : V) (H : Hp) : Prop := H f = some (LamO f (lamObj env l pm ctv c)) ∧ H c = some (LamX.CodeO c (lqual env)) ∧ ∀ E, Rz C H w E → l.t E σ H (fun _ _ => False)
theorem pe_ask {pins : List (Addr × Obj)} {σ : L2.St} {H : Hp} {s : Shared} {k : Nat} {l : LamR} {f c g C : Addr} {cdg pm ctv : Value} {w : V} {E E2 : XK} {W : WX} {pn : List (Addr × Obj)} {xe : Value → Shared → Prop} {p1 p2 : Pos} (hP : X.prog = PG) (I : Inv X pins σ H s) (lk : LamK X k l)
    (hr : Room (k + 1) (X.A.deeper (envOfC "_law_heard" (defScope s_law_heard) s.heap.objs.size g cdg))) (tk : Takes ((hCx X.w X.K X.mg X.base g cdg X.A X.stack s H E).tr pn xe) W) (hW : ∀ cls d σ' H', E2 cls d H' → W cls d σ' H') :
    PE ((hCx X.w X.K X.mg X.base g cdg X.A X.stack s H E).tr pn xe) (.Call (.Name "_law_ask" p1) [] [] p2) (tAct C f (LamAt C X.env σ l f c pm ctv w) w E2) := by
  obtain ⟨xp, xw, xK, xm, xb, xA, xN, x0, xH, xenv, xo, xs, xex, xfn, xc, xpn, xxe⟩ := X
  have hP : xp = PG := hP
  subst hP
  refine ⟨fun pinsZ sZ σZ HZ Q IZ ⟨h0, ⟨hf, hc, ht⟩, hz⟩ => ?_⟩
  refine wpAny_Call_Name_kw (thn ((pe_var (pos := p1) (i := 0) rfl (.inl rfl)).run pinsZ sZ σZ HZ (fun v H1 => v = .ref f ∧ H1 = HZ) IZ ⟨.ref f, h0, rfl, rfl⟩) fun u s1 ⟨v, H1, I1, r1, ev, eH⟩ => ?_)
  subst ev eH
  obtain rfl : u = .ref f := r1
  obtain ⟨of1, _⟩ := I1.hok f _ hf
  have lc := lam_call I lk (s1 := s1) (HZ := H1) (E := E2) (Q := fun _ _ => False) (A := xA.deeper (envOfC "_law_heard" (defScope s_law_heard) s.heap.objs.size g cdg)) (outer := envOfC "_law_heard" (defScope s_law_heard) s.heap.objs.size g cdg :: xs) I1.env0 hr I1.base hf hc (ht E2 hz)
  refine PySem.W.callWith_F0 ⟨_, _, _, _, of1⟩ (wpAny_call (codeAny_mono lc fun r s' hq => ?_))
  match r, hq with
  | .error y, hq => exact passes_call (X := (hCx xw xK xm xb g cdg xA xs s H E).tr pn xe) tk hW pinsZ σZ H1 s1 y s' I1 hq
  | .ok (.ret _), ⟨_, _, _, _, _, _, _, z⟩ => exact z.elim
  | .ok .next, hq => exact False.elim hq
  | .ok .brk, hq => exact False.elim hq
  | .ok .cont, hq => exact False.elim hq
/-! ### it is heard -/
/-- Y runs beside X: the same program, frames and so on -/
structure Same (X Y : Cx) : Prop where
  prog : Y.prog = X.prog
  w : Y.w = X.w
  K : Y.K = X.K
  mg : Y.mg = X.mg
  base : Y.base = X.base
  A : Y.A = X.A
  stack : Y.stack = X.stack
def HA (C : Addr) (env : Env) (ls : List LamR) (σ : L2.St) (x : V) (H : Hp) (Q : VK) : Prop := ∃ l ∈ ls, ∃ f c pm ctv w, x = .ref f ∧ LamAt C env σ l f c pm ctv w H ∧
  ∀ dx H', Ex H H' → H dx = none → H' dx = some (.xd [("at", w)]) → ∃ d, Dg H' w d ∧ Shw d ∧ ∀ t, H' t = none → Q (.ref t) (upd H' t (.tup (refD d)))
def tHA (C : Addr) (env : Env) (ls : List LamR) (τ : L2.St → L2.St) (te : TE) : TE := fun σ H Q => te σ H fun x H1 => HA C env ls (τ σ) x H1 Q
theorem pe_heard {Y : Cx} {k : Nat} {CO : Addr} {ls : List LamR} {τ : L2.St → L2.St} {e : Expr} {te : TE} {p pos : Pos} (T : Txt X.K X.mg) (hc : HeC X.K X.mg T.C CO) (hP : X.prog = PG) (hs : Same X Y) (up : ∀ pins σ H s, Inv Y pins σ H s → Inv X [] (τ σ) H s)
    (hl : ∀ l ∈ ls, LamK X k l) (hG : X.A.guards = some []) (hr : Room (k + 2) X.A) (he : PE Y e te) (hg : Gl Y "_law_heard" := by rfl)
    (hse : starEach [e] Y.env = (false, eval e Y.env) :: starEach [] Y.env := by rfl) (hpl : (backTo pos (starEach [] Y.env)).any (·.1) = false := by rfl) :
    PE Y (.Call (.Name "_law_heard" p) [e] [] pos) (tHA T.C X.env ls τ te) := by
  obtain ⟨xp, xw, xK, xm, xb, xA, xN, x0, xH, xenv, xo, xs, xex, xfn, xc, xpn, xxe⟩ := X
  obtain ⟨yp, yw, yK, ym, yb, yA, yN, y0, yH, yenv, yo, ys, yex, yfn, yc, ypn, yxe⟩ := Y
  obtain ⟨h1, h2, h3, h4, h5, h6, h7⟩ := hs
  dsimp only at h1 h2 h3 h4 h5 h6 h7
  subst h1 h2 h3 h4 h5 h6 h7
  have hP : yp = PG := hP
  subst hP
  constructor
  intro pins s σ H Q I h
  refine wpAny_Call_Name_kw (ld_glob I hg T.f_law_heard.g ?_ (by decide))
  refine PySem.W.callWith_K (h₀ := yb) I.ok.mod.kin T.f_law_heard.F.kp (thn ((pa_cons he pa_nil hse).run pos pins s σ H (fun vs H1 => match vs with | [x] => HA T.C xenv ls (τ σ) x H1 Q | _ => False) I h) fun us s1 ⟨vs, H1, I1, r, q⟩ => ⟨I1.kIn, ?_⟩) hse hpl
  cases r with
  | nil => exact False.elim q
  | @cons x u vs2 us2 rx rs =>
    cases rs with
    | cons _ _ => exact False.elim q
    | nil =>
    obtain ⟨l, hl1, f, c, pm, ctv, w, ex, hL, hq⟩ := q
    subst ex
    obtain rfl : u = Value.ref f := rx
    have JX := up pins σ H1 s1 I1
    have hh := heard_run T hc (L := LamAt T.C xenv (τ σ) l f c pm ctv w) (f := f) (w := w) (E := fun _ _ _ => False) (Q := Q) hG hr I1.env0 (fun cdg hr' W pn xe E2 p1 p2 tk hW => pe_ask (X := ⟨PG, yw, yK, ym, yb, yA, xN, x0, xH, xenv, xo, ys, xex, xfn, xc, xpn, xxe⟩) (pm := pm) (ctv := ctv) (f := f) (c := c) (w := w) rfl JX (hl l hl1) hr' tk hW) hL hq
    exact came_back (as := ⟨[.ref f], []⟩) (fun _ _ _ _ _ _ _ ⟨_, _, _, _, _, _, _, _, _, _, _, _, z⟩ => z.elim) I1 hh
end
end DL
/-! lists of lambdas over frames: made, asked one by one -/
namespace DL
open PySem L2
/-- what the table's cell owns -/
abbrev TOwn (P : Addr) (ps : Array Value) (a : Addr) : Prop := a = P ∨ ∃ pos, codeAmong pos ps.toList = some (.ref a)
section
variable {e : Ent} {δ : Fm} {G H G' H' : Hp} {σ : L2.St} {it : Nat} {P : Addr} {q : Str} {ps : Array Value}
theorem Sd.table (S : Sd e δ G H σ) (hi : δ[it]? = some (.t P q ps)) : H P = some (.tbl ps) ∧ TabK q H ps ∧ G P = none := by
  obtain ⟨h1, h2, h3⟩ := S.cells it _ hi
  exact ⟨h1, ⟨h2, h3⟩, (S.own it _ P hi (.inl rfl)).2⟩
/-- a new code in the table -/
theorem Sd.tabMore (S : Sd e δ G H σ) (hi : δ[it]? = some (.t P q ps)) (hB : e.B P) {pos : Pos} {c : Addr} (hc : H c = none) : Sd e (δ.set it (.t P q (DL.tabMore ps pos c))) G (upd (upd H P (.tbl (DL.tabMore ps pos c))) c (LamX.CodeO c q)) σ := by
  obtain ⟨h1, ⟨h2, h3⟩, h4⟩ := S.table hi
  have nPc : P ≠ c := fun z => by rw [← z, h1] at hc; cases hc
  have keep : ∀ b o, b ≠ P → H b = some o → (upd (upd H P (.tbl (DL.tabMore ps pos c))) c (LamX.CodeO c q)) b = some o := fun b o nb z => by
    rw [upd_ne (show b ≠ c from fun y => by rw [y, hc] at z; cases z), upd_ne nb]; exact z
  have atP : (upd (upd H P (.tbl (DL.tabMore ps pos c))) c (LamX.CodeO c q)) P = some (.tbl (DL.tabMore ps pos c)) := by rw [upd_ne nPc, upd_same]
  have eL : (DL.tabMore ps pos c).toList = ps.toList ++ [rawInt pos.line, rawInt pos.col, .ref c] := by unfold DL.tabMore; simp
  have hl : it < δ.length := (List.getElem?_eq_some_iff.mp hi).1
  have at_ : ∀ {j : Nat} {d : Cell}, (δ.set it (.t P q (DL.tabMore ps pos c)))[j]? = some d → (j = it ∧ d = .t P q (DL.tabMore ps pos c)) ∨ (j ≠ it ∧ δ[j]? = some d) := fun {j d} h => by
    by_cases z : j = it
    · subst z; rw [List.getElem?_set_self hl] at h; exact .inl ⟨rfl, (Option.some.inj h).symm⟩
    · rw [List.getElem?_set_ne (Ne.symm z)] at h; exact .inr ⟨z, h⟩
  have own' : ∀ a, Own σ[it]? a (.t P q (DL.tabMore ps pos c)) → Own σ[it]? a (.t P q ps) ∨ a = c := fun a w => by
    rcases (show a = P ∨ ∃ p', codeAmong p' (DL.tabMore ps pos c).toList = some (.ref a) from w) with z | ⟨p', z⟩
    · exact .inl (.inl z)
    · rw [eL] at z
      rcases LamX.among_app _ h2 z with y | y
      · exact .inl (.inr ⟨p', y⟩)
      · cases y; exact .inr rfl
  refine ⟨fun a o z => keep a o (fun y => by rw [y, h4] at z; cases z) (S.sub a o z), S.grow, fun a o z nb => keep a o (fun y => nb (by rw [y]; exact hB)) (S.old a o z nb), S.new, fun a hb y => ?_, by simp [S.len], fun j d hd => ?_, fun j d a hd w => ?_, fun j k d d' a hd hd' w w' => ?_⟩
  · by_cases z : a = P
    · subst z; rw [atP] at y; cases y
    · cases hh : H a with
      | none => exact S.bs a hb hh
      | some o => rw [keep a o z hh] at y; cases y
  · rcases at_ hd with ⟨z, ed⟩ | ⟨z, hd'⟩
    · subst ed
      refine ⟨atP, by rw [eL]; exact PySem.TriplesOk_snoc _ _ _ _ h2, fun p' cv hcv => ?_⟩
      rw [eL] at hcv
      rcases LamX.among_app _ h2 hcv with y | y
      · obtain ⟨c0, e1, e2⟩ := h3 p' cv y
        exact ⟨c0, e1, keep c0 _ (fun x => by rw [x, h1] at e2; exact LamX.codeO_ne ps (Option.some.inj e2).symm) e2⟩
      · exact ⟨c, y, upd_same⟩
    · refine (S.cells j d hd').up Ex.rfl' fun a w u hu => keep a u (fun y => z (S.apart j it d _ a hd' hi w (.inl y))) hu
  · rcases at_ hd with ⟨z, ed⟩ | ⟨z, hd'⟩
    · subst ed z
      rcases own' a w with y | y
      · exact S.own j _ a hi y
      · rw [y]; exact ⟨.inr (S.eh hc), S.gn hc⟩
    · exact S.own j d a hd' w
  · rcases at_ hd with ⟨z, ed⟩ | ⟨z, hd1⟩ <;> rcases at_ hd' with ⟨z', ed'⟩ | ⟨z', hd1'⟩
    · rw [z, z']
    · subst ed z
      rcases own' a w with y | y
      · exact S.apart j k _ d' a hi hd1' y w'
      · subst y; exact absurd w' (S.no hc k d' hd1')
    · subst ed' z'
      rcases own' a w' with y | y
      · exact S.apart j k d _ a hd1 hi w y
      · subst y; exact absurd w (S.no hc j d hd1)
    · exact S.apart j k d d' a hd1 hd1' w w'
/-- nobody's object is written -/
theorem nob_wr {p : Addr} {o o' : HO} (n : Nob e δ σ G H p o) (S : Sd e δ G H σ) : Sd e δ G (upd H p o') σ ∧ Nob e δ σ G (upd H p o') p o' := by
  have keep : ∀ b u, b ≠ p → H b = some u → (upd H p o') b = some u := fun b u nb z => by rw [upd_ne nb]; exact z
  refine ⟨⟨fun a u z => keep a u (fun y => by rw [y, n.gn] at z; cases z) (S.sub a u z), S.grow, fun a u z nb => keep a u (fun y => by rw [y, n.eh] at z; cases z) (S.old a u z nb), S.new, fun a hb y => ?_, S.len, fun j d hd => ?_, S.own, S.apart⟩, ⟨upd_same, n.eh, n.gn, n.no⟩⟩
  · by_cases z : a = p
    · subst z; rw [upd_same] at y; cases y
    · rw [upd_ne z] at y; exact S.bs a hb y
  · exact (S.cells j d hd).up Ex.rfl' fun a w u hu => keep a u (fun y => n.no j d hd (by rw [← y]; exact w)) hu
/-- a slot of which nothing is told -/
theorem Sd.slot (S : Sd e δ G H σ) {i : Nat} (hi : δ[i]? = some .no) (v : Option V) : Sd e δ G H (σ.set i v) := by
  have ne : ∀ {j : Nat} {d : Cell} {a : Addr}, δ[j]? = some d → Own (σ.set i v)[j]? a d → Own σ[j]? a d := fun {j d a} hd w => by
    by_cases z : j = i
    · subst z; rw [hi] at hd; cases hd; exact w.elim
    · rw [List.getElem?_set_ne (Ne.symm z)] at w; exact w
  refine ⟨S.sub, S.grow, S.old, S.new, S.bs, by simp [S.len], fun j d hd => ?_, fun j d a hd w => S.own j d a hd (ne hd w), fun j k d d' a hd hd' w w' => S.apart j k d d' a hd hd' (ne hd w) (ne hd' w')⟩
  by_cases z : j = i
  · subst z; rw [hi] at hd; cases hd; trivial
  · rw [List.getElem?_set_ne (Ne.symm z)]; exact S.cells j d hd
theorem nob_slot {p : Addr} {o : HO} {i : Nat} (n : Nob e δ σ G H p o) (hi : δ[i]? = some .no) (v : Option V) : Nob e δ (σ.set i v) G H p o := ⟨n.at_, n.eh, n.gn, fun j d hd w => by
  by_cases z : j = i
  · subst z; rw [hi] at hd; cases hd; exact w
  · rw [List.getElem?_set_ne (Ne.symm z)] at w; exact n.no j d hd w⟩
/-- a made lambda -/
structure Fi where
  f : Addr
  c : Addr
  pm : Value
  ctv : Value
def FiAt (env : Env) (H : Hp) (l : LamR) (x : Fi) : Prop := H x.f = some (LamO x.f (lamObj env l x.pm x.ctv x.c)) ∧ H x.c = some (LamX.CodeO x.c (lqual env))
theorem FiAt.ext {env : Env} {l : LamR} {x : Fi} (h : FiAt env H l x) (k : LamX.ExtN H H') : FiAt env H' l x := ⟨k _ _ h.1 (fun ps z => by unfold LamO at z; cases z), k _ _ h.2 LamX.codeO_ne⟩
inductive FiAll (env : Env) (H : Hp) : List LamR → List Fi → Prop
  | nil : FiAll env H [] []
  | cons {l : LamR} {x : Fi} {ls : List LamR} {xs : List Fi} : FiAt env H l x → FiAll env H ls xs → FiAll env H (l :: ls) (x :: xs)
theorem FiAll.ext {env : Env} (k : LamX.ExtN H H') : ∀ {ls : List LamR} {xs : List Fi}, FiAll env H ls xs → FiAll env H' ls xs
  | _, _, .nil => .nil
  | _, _, .cons h r => .cons (h.ext k) (r.ext k)
theorem FiAll.snoc {env : Env} {l : LamR} {x : Fi} (k : FiAt env H l x) : ∀ {ls : List LamR} {xs : List Fi}, FiAll env H ls xs → FiAll env H (ls ++ [l]) (xs ++ [x])
  | _, _, .nil => .cons k .nil
  | _, _, .cons h r => .cons h (r.snoc k)
theorem FiAll.len {env : Env} : ∀ {ls : List LamR} {xs : List Fi}, FiAll env H ls xs → xs.length = ls.length
  | _, _, .nil => rfl
  | _, _, .cons _ r => by rw [List.length_cons, List.length_cons, r.len]
theorem FiAll.get {env : Env} : ∀ {ls : List LamR} {xs : List Fi} {i : Nat} {x : Fi}, FiAll env H ls xs → xs[i]? = some x → ∃ l ∈ ls, FiAt env H l x
  | _, _, i, _, .nil, h => by simp at h
  | _, _, 0, _, .cons k _, h => by
    simp at h; subst h; exact ⟨_, List.mem_cons_self, k⟩
  | _, _, i + 1, _, .cons _ r, h => by
    obtain ⟨l, h1, h2⟩ := r.get (i := i) (by simpa using h)
    exact ⟨l, List.mem_cons_of_mem _ h1, h2⟩
theorem extN_ex (h : Ex H H') : LamX.ExtN H H' := fun b o z _ => h b o z
/-- a lambda is made -/
theorem lam_new {env : Env} {l : LamR} {Q : VK} (S : Sd e δ G H σ) (hi : δ[it]? = some (.t P (lqual env) ps)) (hB : e.B P) (k : ∀ x ps' H1, Sd e (δ.set it (.t P (lqual env) ps')) G H1 σ → LamX.ExtN H H1 → FiAt env H1 l x → Q (.ref x.f) H1) : tLam env P l σ H Q := by
  obtain ⟨h1, h2, h3⟩ := S.table hi
  have same : δ.set it (.t P (lqual env) ps) = δ := by
    refine List.ext_getElem? (fun j => ?_)
    by_cases z : j = it
    · subst z; rw [List.getElem?_set_self (List.getElem?_eq_some_iff.mp hi).1, hi]
    · rw [List.getElem?_set_ne (Ne.symm z)]
  refine ⟨ps, h1, h2, fun f c pm ctv ha hf => ?_, fun f c pm ctv ha hf hc nfc nfP => ?_⟩
  · obtain ⟨c0, e1, e2⟩ := h2.2 _ _ ha
    cases e1
    have x := Ext.allocH (o := LamO f (lamObj env l pm ctv c)) S.sub hf
    exact k ⟨f, c, pm, ctv⟩ ps _ (by rw [same]; exact (S.go x).s) (extN_ex x.h) ⟨upd_same, x.h _ _ e2⟩
  · have S1 := S.tabMore hi hB (pos := l.pos) hc
    have hf1 : (upd (upd H P (.tbl (DL.tabMore ps l.pos c))) c (LamX.CodeO c (lqual env))) f = none := by rw [upd_ne nfc, upd_ne nfP]; exact hf
    have x := Ext.allocH (o := LamO f (lamObj env l pm ctv c)) S1.sub hf1
    refine k ⟨f, c, pm, ctv⟩ _ _ (S1.go x).s (fun b o z n => x.h _ _ ?_) ⟨upd_same, x.h _ _ upd_same⟩
    rw [upd_ne (show b ≠ c from fun y => by rw [y, hc] at z; cases z), upd_ne (show b ≠ P from fun y => n ps (by rw [y, h1] at z; exact (Option.some.inj z).symm))]
    exact z
end
end DL
/-! statements on lists of lambdas -/
namespace DL
open PySem L2
def rD (d : PyData) : PyData := .tuple [.str (Str.ofString "refused"), .str d.shown, .bool true]
theorem rD_shp {d : PyData} (h : sok d.shown) : shp (rD d) = true := by
  unfold sok at h
  have h1 : PyData.strOk (Str.ofString "refused") = true := sok_of _
  simp [rD, SeqAt.shaped, PyData.canLay0, PyData.canLayAll0, h, h1, PyData.depth, PyData.depthAll]
theorem rD_eqv (d : PyData) : PyData.eqv (rD d) (rD d) = true := by
  simp [rD, PyData.eqv, PyData.eqvAll]
theorem rD_dp {K : PySem.W.Frag} {H : Hp} {p : Addr} {d : PyData} (h : H p = some (.tup (refD d))) : Dp K H (.ref p) (rD d) := .tup (SqT.of h) (.cons (.str _) (.cons (.str _) (.cons (.bl _) .nil)))
/-- called, l is refused with what is told as d -/
def LamRef (C : Addr) (G : Hp) (σ : L2.St) (l : LamR) (d : PyData) : Prop := ∃ w, Dg G w d ∧ ∀ H, Ex G H → ∀ E, Rz C H w E → l.t E σ H (fun _ _ => False)
/-- a list of lambdas stands at slot i -/
structure Ask (e : Ent) (δ : Fm) (G H : Hp) (σ : L2.St) (i : Nat) (env : Env) (ls : List LamR) : Prop where
  S : Sd e δ G H σ
  no : δ[i]? = some .no
  at_ : ∃ a xs, σ[i]? = some (some (.ref a)) ∧ Nob e δ σ G H a (.lst (xs.map fun x => V.ref x.f)) ∧ FiAll env H ls xs
section
variable {e : Ent} {δ : Fm} {G H G' H' : Hp} {σ : L2.St} {it i m : Nat} {P C : Addr} {ps : Array Value} {K : PySem.W.Frag} {t1 t2 : TS} {D : L2.Ends} {env : Env} {l : LamR} {ls : List LamR} {d : PyData} {tx : TE}
theorem Ask.nob {x : Addr} {o : HO} (S : Sd e δ G H σ) (n : Nob e δ σ G H x o) (S' : Sd e (δ.set it (.t P (lqual env) ps)) G H' σ) (hx : H' x = some o) (hP : x ≠ P) (hc : ∀ pos, codeAmong pos ps.toList ≠ some (.ref x)) : Nob e (δ.set it (.t P (lqual env) ps)) σ G H' x o := ⟨hx, n.eh, n.gn, fun j d hd w => by
  by_cases z : j = it
  · subst z
    have hl : j < δ.length := by simpa using (List.getElem?_eq_some_iff.mp hd).1
    rw [List.getElem?_set_self hl] at hd
    cases hd
    rcases (show x = P ∨ ∃ p', codeAmong p' ps.toList = some (.ref x) from w) with y | ⟨p', y⟩
    · exact hP y
    · exact hc p' y
  · rw [List.getElem?_set_ne (Ne.symm z)] at hd; exact n.no j d hd w⟩
/-- no list stands in the table -/
theorem Sd.noTab {xs : List V} {x : Addr} (S : Sd e δ G H σ) (hi : δ[it]? = some (.t P (lqual env) ps)) (hx : H x = some (.lst xs)) : x ≠ P ∧ ∀ pos, codeAmong pos ps.toList ≠ some (.ref x) := by
  obtain ⟨h1, ⟨_, h2⟩, _⟩ := S.table hi
  refine ⟨fun z => (by rw [z, h1] at hx; cases hx), fun pos z => ?_⟩
  obtain ⟨c, e1, e2⟩ := h2 pos _ z
  cases e1
  rw [hx] at e2
  have e2 := Option.some.inj e2
  unfold LamX.CodeO at e2
  cases e2
theorem q_ask0 (S : Sd e δ G H σ) (hi : δ[it]? = some (.t P (lqual env) ps)) (hB : e.B P) (h0 : δ[i]? = some .no) (hl : i < σ.length)
    (k : ∀ ps' a H1, Ask e (δ.set it (.t P (lqual env) ps')) G H1 (σ.set i (some (.ref a))) i env [l] → t2 D (σ.set i (some (.ref a))) H1) : tSeq (tAsg (tLst (tCons (tLam env P l) tNil)) (gName i)) t2 D σ H := by
  have ne : i ≠ it := fun z => by rw [z, hi] at h0; cases h0
  show tLam env P l σ H (fun x H1 => [x].length ≤ sizeLine ∧ ∀ p, H1 p = none → t2 D (σ.set i (some (.ref p))) (upd H1 p (.lst [x])))
  refine lam_new S hi hB fun x ps' H1 S1 _ hx => ⟨show 1 ≤ sizeLine by decide, fun p hp => ?_⟩
  have y := Ext.allocH (o := HO.lst [V.ref x.f]) S1.sub hp
  have n1 : (δ.set it (.t P (lqual env) ps'))[i]? = some .no := by rw [List.getElem?_set_ne (Ne.symm ne)]; exact h0
  exact k ps' p _ ⟨(S1.go y).s.slot n1 _, n1, p, [x], by rw [List.getElem?_set_self hl], nob_slot (Nob.new S1 hp) n1 _, .cons (hx.ext (extN_ex y.h)) .nil⟩
theorem q_ask1 (A : Ask e δ G H σ i env ls) (hi : δ[it]? = some (.t P (lqual env) ps)) (hB : e.B P) (hz : ls.length < 1000000)
    (k : ∀ ps' H1, Ask e (δ.set it (.t P (lqual env) ps')) G H1 σ i env (ls ++ [l]) → t2 D σ H1) : tSeq (tDrop (tBM K "list" rAppend (tVar i) (tCons (tLam env P l) tNil))) t2 D σ H := by
  obtain ⟨S, h0, a, xs, ha, n, fi⟩ := A
  have ne : i ≠ it := fun z => by rw [z, hi] at h0; cases h0
  refine ⟨.ref a, ha, .inl ⟨rfl, _, SqL.of n.at_⟩, lam_new S hi hB fun x ps' H1 S1 k1 hx => ?_⟩
  have ha1 : H1 a = some (.lst (xs.map fun x => V.ref x.f)) := k1 _ _ n.at_ (fun ps z => by cases z)
  have hl : it < δ.length := (List.getElem?_eq_some_iff.mp hi).1
  obtain ⟨b1, b2⟩ := S1.noTab (List.getElem?_set_self hl) ha1
  have n1 := Ask.nob S n S1 ha1 b1 b2
  obtain ⟨S2, n2⟩ := nob_wr (o' := .lst (xs.map (fun x => V.ref x.f) ++ [V.ref x.f])) n1 S1
  have up : ∀ {l : LamR} {y : Fi}, FiAt env H1 l y → FiAt env (upd H1 a (.lst (xs.map (fun x => V.ref x.f) ++ [V.ref x.f]))) l y := fun {l y} h => by
    refine ⟨?_, ?_⟩
    · rw [upd_ne]; exact h.1
      intro z; have := h.1; rw [z, ha1] at this; have := Option.some.inj this; unfold LamO at this; cases this
    · rw [upd_ne]; exact h.2
      intro z; have := h.2; rw [z, ha1] at this; have := Option.some.inj this; unfold LamX.CodeO at this; cases this
  have upA : ∀ {ls : List LamR} {xs' : List Fi}, FiAll env H1 ls xs' → FiAll env (upd H1 a (.lst (xs.map (fun x => V.ref x.f) ++ [V.ref x.f]))) ls xs' := fun {ls xs'} h => by
    induction h with
    | nil => exact .nil
    | cons h _ ih => exact .cons (up h) ih
  have f1 := fi.ext k1
  refine ⟨a, _, _, rfl, rfl, ha1, by rw [List.length_map, fi.len]; exact Nat.lt_of_lt_of_le hz (show 1000000 ≤ sizeLine by decide), ?_⟩
  refine k ps' _ ⟨S2, by rw [List.getElem?_set_ne (Ne.symm ne)]; exact h0, a, xs ++ [x], ha, ?_, (upA f1).snoc (up hx)⟩
  rw [List.map_append]
  exact n2
/-- each is heard: all are refused as is told -/
theorem q_askN (A : Ask e δ G H σ i env ls) (hm : m ≠ i) (hml : m < σ.length) (hr : ∀ l ∈ ls, LamRef C G σ l d) (sh : Shw d) (so : sok d.shown)
    (hx : ∀ σ4 H4 (Q : VK), (∀ j, j ≠ m → σ4[j]? = σ[j]?) → Ex G H4 → (∀ p, H4 p = none → Q (.ref p) (upd H4 p (.tup (refD d)))) → tx σ4 H4 Q) (k : ∀ H', Sd e δ G H' σ → t2 D σ H') :
    tSeq (tIfS (tTest (tOp (rNeD K) (tLcN (iSeq K (tVar i)) (gName m) (fun σ => tTest (tOp (rNeD K) (tHA C env ls (fun _ => σ) (tVar m)) tx)) [m]) (tLst tNil))) t1 tNext) t2 D σ H := by
  obtain ⟨S, h0, a, xs, ha, n, fi⟩ := A
  refine ⟨.ref a, ha, a, rfl, .inl ⟨⟨_, SqL.of n.at_⟩, fun Dl hD => ⟨fun j mm H2 => j + mm = xs.length ∧ Ex (upd H Dl (.lst [])) H2, ⟨xs.length, by simp, Ex.rfl'⟩, fun j mm H2 ⟨hj, ex⟩ => ?_⟩⟩⟩
  have exH : Ex H H2 := (Ex.updN hD).tr ex
  have hl : H2 a = some (.lst (xs.map fun x => V.ref x.f)) := exH _ _ n.at_
  cases mm with
  | zero =>
    refine .inl ⟨⟨_, SqL.of hl, by rw [List.length_map]; omega⟩, ⟨show 0 ≤ sizeLine by decide, fun p hp => ?_⟩⟩
    have e1 : (upd H2 p (.lst [])) Dl = some (.lst []) := by
      have h2 : H2 Dl = some (.lst []) := ex _ _ upd_same
      rw [upd_ne (ne_of_none h2 hp)]; exact h2
    exact ⟨.list [], .list [], .lst (SqL.of e1) .nil, .lst (SqL.of upd_same) .nil, by decide, by decide, false, by simp [PyData.eqv, PyData.eqvAll], k _ (S.go ⟨Ex.rfl', exH.tr (Ex.updN hp), (S.sub.tr exH).tr (Ex.updN hp), fun _ z => .inl z⟩).s⟩
  | succ mm =>
    have hjl := show j < xs.length by omega
    have hv : (xs.map fun x => V.ref x.f)[j]? = some (V.ref xs[j].f) := by rw [List.getElem?_map, List.getElem?_eq_getElem hjl]; rfl
    refine .inr ⟨⟨_, _, SqL.of hl, hv⟩, fun H3 => Ex H2 H3, fun H3 h3 => ⟨mm, Nat.lt_succ_self mm, by omega, ex.tr h3⟩, fun x H3 ⟨e1, e2⟩ => ?_⟩
    subst e1
    have ex1 := e2 _ (SqL.of hl)
    rw [hv] at ex1
    cases ex1
    obtain ⟨l, hl1, f1, f2⟩ := fi.get (List.getElem?_eq_getElem hjl)
    obtain ⟨w, hw, ref⟩ := hr l hl1
    have sl : ∀ j', j' ≠ m → ((wipe σ [m]).set m (some (V.ref xs[j].f)))[j']? = σ[j']? := fun j' hj' => by
      rw [List.getElem?_set_ne (Ne.symm hj')]
      show (σ.set m none)[j']? = _
      rw [List.getElem?_set_ne (Ne.symm hj')]
    have sm : ((wipe σ [m]).set m (some (V.ref xs[j].f)))[m]? = some (some (V.ref xs[j].f)) := by
      rw [List.getElem?_set_self (by rw [wipe_length]; exact hml)]
    refine ⟨?_, V.ref xs[j].f, sm, l, hl1, xs[j].f, xs[j].c, xs[j].pm, xs[j].ctv, w, rfl, ⟨exH _ _ f1, exH _ _ f2, ref _ (S.sub.tr exH)⟩, fun dx H4 ex4 hd4 hx4 => ⟨d, hw.up ((S.sub.tr exH).tr ex4), sh, fun T hT => ?_⟩⟩
    · show ((σ.set m none).set m _).set m none = σ.set m none
      rw [List.set_set, List.set_set]
    · have exT : Ex H4 (upd H4 T (.tup (refD d))) := Ex.updN hT
      refine hx _ _ _ sl (((S.sub.tr exH).tr ex4).tr exT) fun p hp => ?_
      have h5 : (upd (upd H4 T (.tup (refD d))) p (.tup (refD d))) T = some (.tup (refD d)) := by rw [upd_ne (ne_of_none upd_same hp)]; exact upd_same
      exact ⟨rD d, rD d, rD_dp h5, rD_dp upd_same, rD_shp so, rD_shp so, false, by rw [rD_eqv]; rfl, rfl, (ex4.tr exT).tr (Ex.updN hp)⟩
/-- the last one -/
theorem s_askR (S : Sd e δ G H σ) (hi : δ[it]? = some (.t P (lqual env) ps)) (hB : e.B P) (hr : LamRef C G σ l d) (sh : Shw d) (so : sok d.shown)
    (hx : ∀ H4 (Q : VK), Ex G H4 → (∀ p, H4 p = none → Q (.ref p) (upd H4 p (.tup (refD d)))) → tx σ H4 Q) (k : ∀ ps' H', Sd e (δ.set it (.t P (lqual env) ps')) G H' σ → D.rt (.bl true) H') :
    tRet (tOp (rEqD K) (tHA C env [l] id (tLam env P l)) tx) D σ H := by
  show tLam env P l σ H (fun x H1 => HA C env [l] (id σ) x H1 fun y H2 => tx σ H2 fun z H3 => rEqD K y z H3 D.rt)
  refine lam_new S hi hB fun x ps' H1 S1 _ fx => ?_
  obtain ⟨w, hw, ref⟩ := hr
  refine ⟨l, List.mem_cons_self, x.f, x.c, x.pm, x.ctv, w, rfl, ⟨fx.1, fx.2, ref _ S1.sub⟩, fun dx H4 ex4 hd4 hx4 => ⟨d, hw.up (S1.sub.tr ex4), sh, fun T hT => ?_⟩⟩
  have exT : Ex H4 (upd H4 T (.tup (refD d))) := Ex.updN hT
  refine hx _ _ ((S1.sub.tr ex4).tr exT) fun p hp => ?_
  have h5 : (upd (upd H4 T (.tup (refD d))) p (.tup (refD d))) T = some (.tup (refD d)) := by rw [upd_ne (ne_of_none upd_same hp)]; exact upd_same
  refine ⟨rD d, rD d, rD_dp h5, rD_dp upd_same, rD_shp so, rD_shp so, ?_⟩
  rw [rD_eqv]
  exact k ps' _ (S1.go ⟨Ex.rfl', (ex4.tr exT).tr (Ex.updN hp), S1.sub.tr ((ex4.tr exT).tr (Ex.updN hp)), fun _ z => .inl z⟩).s
end
end DL
/-! printed by gen_nr.py: the lambdas, their readings, the def that makes them -/
namespace DL
open PySem PySem.Spec PyProof.Rows L2
/-- the lambda of a statement -/
def lamE : Stmt → Option Expr
  | .Assign _ (.List [e] _) _ => some e
  | .Expr (.Call _ [e] _ _) _ => some e
  | .Return (some (.Compare (.Call _ [e] _ _) _ _ _)) _ => some e
  | _ => none
def lamR (i : Nat) (t : XK → TE) : LamR := match lamE ((defBody (topS 60)).getD i (.Pass ⟨0, 0, 0, 0⟩)) with
  | some (.Lambda p b s pos) => ⟨p, b, s, pos, t⟩
  | _ => ⟨defArgs (topS 0), .Constant .none 0 ⟨0, 0, 0, 0⟩, defScope (topS 0), ⟨0, 0, 0, 0⟩, t⟩
theorem lamS_at {i : Nat} {t : XK → TE} (h : (match lamE ((defBody (topS 60)).getD i (.Pass ⟨0, 0, 0, 0⟩)) with | some (.Lambda _ _ s _) => LamX.lamSB (defScope (topS 60)) s | _ => LamX.lamSB (defScope (topS 60)) (defScope (topS 0))) = true) : LamX.LamS (defScope (topS 60)) (lamR i t).scope := by
  refine LamX.lamS_by ?_
  unfold lamR
  revert h
  split <;> exact id
theorem hl_nil {X : Cx} {k : Nat} : ∀ l ∈ ([] : List LamR), LamK X k l := fun _ h => nomatch h
theorem hl_cons {X : Cx} {k : Nat} {l : LamR} {ls : List LamR} (h : LamK X k l) (r : ∀ l ∈ ls, LamK X k l) : ∀ l' ∈ l :: ls, LamK X k l' := fun l' q => (List.mem_cons.mp q).elim (fun e => by rw [e]; exact h) (r l')
theorem inv_drop {X : Cx} {pins : List (Addr × Obj)} {σ : L2.St} {H : Hp} {s : Shared} (I : Inv X pins σ H s) : Inv X [] σ H s := ⟨I.ok, I.os, I.bare, I.base, I.loc, I.cell, I.free, I.freeC, fun p hp => I.pin p (List.mem_append_left _ (by simpa using hp)), I.hok, I.len⟩
theorem blk_up {X : Cx} {pins pins' : List (Addr × Obj)} {σ σ' : L2.St} {H H' : Hp} {s s' : Shared} {scope : Scope} {ce : Env} {fp : List Addr} (I : Inv X pins σ H s) (hf : ∀ b ∈ fp, FpOk X pins H b) (J : Inv (X.blk s H scope ce fp) pins' σ' H' s') : Inv X [] σ H' s' :=
  inv_drop (I.call' (ch := fp) J.os J.base J.hok J.bare fun b hb => (fun z => ⟨z.2.2.2.1, z.2.1, z.2.2.2.2⟩) (hf b hb))
abbrev s_law_none_right : Stmt := topS 60
abbrev NNR : List Str := ["_law_box_here", "_law_net_here", "_law_none", "_law_bad", "_law_odd", "_law_asks", "_law_ask", "_zz"]
theorem sc_law_none_right : FnScope NNR ["_law_box_here", "_law_net_here"] (defScope s_law_none_right) := ⟨rfl, rfl, rfl, by decide +kernel, rfl, by decide +kernel, by decide +kernel⟩
abbrev xNR (w : World) (K : PySem.W.Frag) (mg : Str → Option Value) (base : Heap) (f : Addr) (cdv : Value) (A : Around) (outer : List Env) (s : Shared) (H : Hp) (E : XK) : Cx := (cxOf (L2.CX PG w) PG w K mg base NNR "_law_none_right" (defScope s_law_none_right) f cdv A outer s H E).nox
def lr_0 (C : Addr) : LamR := lamR 3 fun E => tCall (sp_greatest C) [] E (tCons (tVar 2) (tCons (tVar 3) (tCons (tVar 3) tNil)))
def lr_1 (C : Addr) : LamR := lamR 4 fun E => tCall (sp_cuts C) [] E (tCons (tVar 2) (tCons (tVar 3) (tCons (tVar 3) tNil)))
def lr_2 (C : Addr) : LamR := lamR 5 fun E => tCall (sp_led_on C) [] E (tCons (tVar 2) (tCons (tVar 3) (tCons (tVar 3) (tCons (tVar 4) tNil))))
def lr_3 (C : Addr) : LamR := lamR 7 fun E => tCall (sp_greatest C) [] E (tCons (tVar 1) (tCons (tVar 3) (tCons (tVar 3) tNil)))
def lr_4 (C : Addr) : LamR := lamR 8 fun E => tCall (sp_cuts C) [] E (tCons (tVar 1) (tCons (tVar 3) (tCons (tVar 3) tNil)))
def lr_5 (C : Addr) : LamR := lamR 9 fun E => tCall (sp_led_on C) [] E (tCons (tVar 1) (tCons (tVar 3) (tCons (tVar 3) (tCons (tVar 4) tNil))))
def lr_6 (C : Addr) : LamR := lamR 10 fun E => tCall (sp_greatest C) [] E (tCons (tVar 1) (tCons (tC (.int 0)) (tCons (tVar 3) tNil)))
def lr_7 (C : Addr) : LamR := lamR 11 fun E => tCall (sp_cuts C) [] E (tCons (tVar 1) (tCons (tC (.int 0)) (tCons (tVar 3) tNil)))
def lr_8 (C : Addr) : LamR := lamR 12 fun E => tCall (sp_led_on C) [] E (tCons (tVar 1) (tCons (tC (.int 0)) (tCons (tVar 3) (tCons (tVar 4) tNil))))
def lr_9 (C : Addr) : LamR := lamR 14 fun E => tCall (sp_greatest C) [] E (tCons (tVar 1) (tCons (tC (.int 1)) (tCons (tC (.int 1)) tNil)))
def lr_10 (C : Addr) : LamR := lamR 15 fun E => tCall (sp_cuts C) [] E (tCons (tVar 1) (tCons (tC (.int 1)) (tCons (tC (.int 1)) tNil)))
def lr_11 (C : Addr) : LamR := lamR 16 fun E => tCall (sp_led_on C) [] E (tCons (tVar 1) (tCons (tC (.int 1)) (tCons (tC (.int 1)) (tCons (tVar 4) tNil))))
def lr_12 (C : Addr) : LamR := lamR 18 fun E => tCall (sp_led_on C) [] E (tCons (tVar 1) (tCons (tC (.int 0)) (tCons (tC (.int 1)) (tCons (tVar 4) tNil))))
section
variable {w : World} {K : PySem.W.Frag} {mg : Str → Option Value} {base : Heap}
theorem lk_0 (T : Txt K mg) (G_greatest : FnOk PG w K mg base (L2.CX PG w) 9 T.f_greatest.f T.f_greatest.fd ["net", "start", "goal"] (sp_greatest T.C)) (f : Addr) (cdv : Value) (A : Around) (outer : List Env) (s : Shared) (H : Hp) (E : XK) : LamK (xNR w K mg base f cdv A outer s H E) 10 (lr_0 T.C) := ⟨lamS_at (by decide +kernel), fun _ _ _ _ _ => rfl, fun A outer s H E f c hr => show PE (LamX.lamCx (xNR w K mg base _ _ _ _ _ _ _) A outer s H E (lr_0 T.C).scope f c) (lr_0 T.C).body (tCall (sp_greatest T.C) [] E (tCons (tVar 2) (tCons (tVar 3) (tCons (tVar 3) tNil)))) from pe_call G_greatest (hr.mono (by decide)) rfl T.f_greatest.g T.f_greatest.F.kp T.f_greatest.b .nil (passes_call (takes_of rfl rfl rfl rfl) (fun _ _ _ _ h => h)) (pa_cons (pv 2) (pa_cons (pv 3) (pa_cons (pv 3) pa_nil)))⟩
theorem lk_1 (T : Txt K mg) (G_cuts : FnOk PG w K mg base (L2.CX PG w) 10 T.f_cuts.f T.f_cuts.fd ["net", "start", "goal"] (sp_cuts T.C)) (f : Addr) (cdv : Value) (A : Around) (outer : List Env) (s : Shared) (H : Hp) (E : XK) : LamK (xNR w K mg base f cdv A outer s H E) 10 (lr_1 T.C) := ⟨lamS_at (by decide +kernel), fun _ _ _ _ _ => rfl, fun A outer s H E f c hr => show PE (LamX.lamCx (xNR w K mg base _ _ _ _ _ _ _) A outer s H E (lr_1 T.C).scope f c) (lr_1 T.C).body (tCall (sp_cuts T.C) [] E (tCons (tVar 2) (tCons (tVar 3) (tCons (tVar 3) tNil)))) from pe_call G_cuts (hr.mono (by decide)) rfl T.f_cuts.g T.f_cuts.F.kp T.f_cuts.b .nil (passes_call (takes_of rfl rfl rfl rfl) (fun _ _ _ _ h => h)) (pa_cons (pv 2) (pa_cons (pv 3) (pa_cons (pv 3) pa_nil)))⟩
theorem lk_2 (T : Txt K mg) (G_led_on : FnOk PG w K mg base (L2.CX PG w) 8 T.f_led_on.f T.f_led_on.fd ["net", "start", "goal", "flow"] (sp_led_on T.C)) (f : Addr) (cdv : Value) (A : Around) (outer : List Env) (s : Shared) (H : Hp) (E : XK) : LamK (xNR w K mg base f cdv A outer s H E) 10 (lr_2 T.C) := ⟨lamS_at (by decide +kernel), fun _ _ _ _ _ => rfl, fun A outer s H E f c hr => show PE (LamX.lamCx (xNR w K mg base _ _ _ _ _ _ _) A outer s H E (lr_2 T.C).scope f c) (lr_2 T.C).body (tCall (sp_led_on T.C) [] E (tCons (tVar 2) (tCons (tVar 3) (tCons (tVar 3) (tCons (tVar 4) tNil))))) from pe_call G_led_on (hr.mono (by decide)) rfl T.f_led_on.g T.f_led_on.F.kp T.f_led_on.b .nil (passes_call (takes_of rfl rfl rfl rfl) (fun _ _ _ _ h => h)) (pa_cons (pv 2) (pa_cons (pv 3) (pa_cons (pv 3) (pa_cons (pv 4) pa_nil))))⟩
theorem lk_3 (T : Txt K mg) (G_greatest : FnOk PG w K mg base (L2.CX PG w) 9 T.f_greatest.f T.f_greatest.fd ["net", "start", "goal"] (sp_greatest T.C)) (f : Addr) (cdv : Value) (A : Around) (outer : List Env) (s : Shared) (H : Hp) (E : XK) : LamK (xNR w K mg base f cdv A outer s H E) 10 (lr_3 T.C) := ⟨lamS_at (by decide +kernel), fun _ _ _ _ _ => rfl, fun A outer s H E f c hr => show PE (LamX.lamCx (xNR w K mg base _ _ _ _ _ _ _) A outer s H E (lr_3 T.C).scope f c) (lr_3 T.C).body (tCall (sp_greatest T.C) [] E (tCons (tVar 1) (tCons (tVar 3) (tCons (tVar 3) tNil)))) from pe_call G_greatest (hr.mono (by decide)) rfl T.f_greatest.g T.f_greatest.F.kp T.f_greatest.b .nil (passes_call (takes_of rfl rfl rfl rfl) (fun _ _ _ _ h => h)) (pa_cons (pv 1) (pa_cons (pv 3) (pa_cons (pv 3) pa_nil)))⟩
theorem lk_4 (T : Txt K mg) (G_cuts : FnOk PG w K mg base (L2.CX PG w) 10 T.f_cuts.f T.f_cuts.fd ["net", "start", "goal"] (sp_cuts T.C)) (f : Addr) (cdv : Value) (A : Around) (outer : List Env) (s : Shared) (H : Hp) (E : XK) : LamK (xNR w K mg base f cdv A outer s H E) 10 (lr_4 T.C) := ⟨lamS_at (by decide +kernel), fun _ _ _ _ _ => rfl, fun A outer s H E f c hr => show PE (LamX.lamCx (xNR w K mg base _ _ _ _ _ _ _) A outer s H E (lr_4 T.C).scope f c) (lr_4 T.C).body (tCall (sp_cuts T.C) [] E (tCons (tVar 1) (tCons (tVar 3) (tCons (tVar 3) tNil)))) from pe_call G_cuts (hr.mono (by decide)) rfl T.f_cuts.g T.f_cuts.F.kp T.f_cuts.b .nil (passes_call (takes_of rfl rfl rfl rfl) (fun _ _ _ _ h => h)) (pa_cons (pv 1) (pa_cons (pv 3) (pa_cons (pv 3) pa_nil)))⟩
theorem lk_5 (T : Txt K mg) (G_led_on : FnOk PG w K mg base (L2.CX PG w) 8 T.f_led_on.f T.f_led_on.fd ["net", "start", "goal", "flow"] (sp_led_on T.C)) (f : Addr) (cdv : Value) (A : Around) (outer : List Env) (s : Shared) (H : Hp) (E : XK) : LamK (xNR w K mg base f cdv A outer s H E) 10 (lr_5 T.C) := ⟨lamS_at (by decide +kernel), fun _ _ _ _ _ => rfl, fun A outer s H E f c hr => show PE (LamX.lamCx (xNR w K mg base _ _ _ _ _ _ _) A outer s H E (lr_5 T.C).scope f c) (lr_5 T.C).body (tCall (sp_led_on T.C) [] E (tCons (tVar 1) (tCons (tVar 3) (tCons (tVar 3) (tCons (tVar 4) tNil))))) from pe_call G_led_on (hr.mono (by decide)) rfl T.f_led_on.g T.f_led_on.F.kp T.f_led_on.b .nil (passes_call (takes_of rfl rfl rfl rfl) (fun _ _ _ _ h => h)) (pa_cons (pv 1) (pa_cons (pv 3) (pa_cons (pv 3) (pa_cons (pv 4) pa_nil))))⟩
theorem lk_6 (T : Txt K mg) (G_greatest : FnOk PG w K mg base (L2.CX PG w) 9 T.f_greatest.f T.f_greatest.fd ["net", "start", "goal"] (sp_greatest T.C)) (f : Addr) (cdv : Value) (A : Around) (outer : List Env) (s : Shared) (H : Hp) (E : XK) : LamK (xNR w K mg base f cdv A outer s H E) 10 (lr_6 T.C) := ⟨lamS_at (by decide +kernel), fun _ _ _ _ _ => rfl, fun A outer s H E f c hr => show PE (LamX.lamCx (xNR w K mg base _ _ _ _ _ _ _) A outer s H E (lr_6 T.C).scope f c) (lr_6 T.C).body (tCall (sp_greatest T.C) [] E (tCons (tVar 1) (tCons (tC (.int 0)) (tCons (tVar 3) tNil)))) from pe_call G_greatest (hr.mono (by decide)) rfl T.f_greatest.g T.f_greatest.F.kp T.f_greatest.b .nil (passes_call (takes_of rfl rfl rfl rfl) (fun _ _ _ _ h => h)) (pa_cons (pv 1) (pa_cons pe_int (pa_cons (pv 3) pa_nil)))⟩
theorem lk_7 (T : Txt K mg) (G_cuts : FnOk PG w K mg base (L2.CX PG w) 10 T.f_cuts.f T.f_cuts.fd ["net", "start", "goal"] (sp_cuts T.C)) (f : Addr) (cdv : Value) (A : Around) (outer : List Env) (s : Shared) (H : Hp) (E : XK) : LamK (xNR w K mg base f cdv A outer s H E) 10 (lr_7 T.C) := ⟨lamS_at (by decide +kernel), fun _ _ _ _ _ => rfl, fun A outer s H E f c hr => show PE (LamX.lamCx (xNR w K mg base _ _ _ _ _ _ _) A outer s H E (lr_7 T.C).scope f c) (lr_7 T.C).body (tCall (sp_cuts T.C) [] E (tCons (tVar 1) (tCons (tC (.int 0)) (tCons (tVar 3) tNil)))) from pe_call G_cuts (hr.mono (by decide)) rfl T.f_cuts.g T.f_cuts.F.kp T.f_cuts.b .nil (passes_call (takes_of rfl rfl rfl rfl) (fun _ _ _ _ h => h)) (pa_cons (pv 1) (pa_cons pe_int (pa_cons (pv 3) pa_nil)))⟩
theorem lk_8 (T : Txt K mg) (G_led_on : FnOk PG w K mg base (L2.CX PG w) 8 T.f_led_on.f T.f_led_on.fd ["net", "start", "goal", "flow"] (sp_led_on T.C)) (f : Addr) (cdv : Value) (A : Around) (outer : List Env) (s : Shared) (H : Hp) (E : XK) : LamK (xNR w K mg base f cdv A outer s H E) 10 (lr_8 T.C) := ⟨lamS_at (by decide +kernel), fun _ _ _ _ _ => rfl, fun A outer s H E f c hr => show PE (LamX.lamCx (xNR w K mg base _ _ _ _ _ _ _) A outer s H E (lr_8 T.C).scope f c) (lr_8 T.C).body (tCall (sp_led_on T.C) [] E (tCons (tVar 1) (tCons (tC (.int 0)) (tCons (tVar 3) (tCons (tVar 4) tNil))))) from pe_call G_led_on (hr.mono (by decide)) rfl T.f_led_on.g T.f_led_on.F.kp T.f_led_on.b .nil (passes_call (takes_of rfl rfl rfl rfl) (fun _ _ _ _ h => h)) (pa_cons (pv 1) (pa_cons pe_int (pa_cons (pv 3) (pa_cons (pv 4) pa_nil))))⟩
theorem lk_9 (T : Txt K mg) (G_greatest : FnOk PG w K mg base (L2.CX PG w) 9 T.f_greatest.f T.f_greatest.fd ["net", "start", "goal"] (sp_greatest T.C)) (f : Addr) (cdv : Value) (A : Around) (outer : List Env) (s : Shared) (H : Hp) (E : XK) : LamK (xNR w K mg base f cdv A outer s H E) 10 (lr_9 T.C) := ⟨lamS_at (by decide +kernel), fun _ _ _ _ _ => rfl, fun A outer s H E f c hr => show PE (LamX.lamCx (xNR w K mg base _ _ _ _ _ _ _) A outer s H E (lr_9 T.C).scope f c) (lr_9 T.C).body (tCall (sp_greatest T.C) [] E (tCons (tVar 1) (tCons (tC (.int 1)) (tCons (tC (.int 1)) tNil)))) from pe_call G_greatest (hr.mono (by decide)) rfl T.f_greatest.g T.f_greatest.F.kp T.f_greatest.b .nil (passes_call (takes_of rfl rfl rfl rfl) (fun _ _ _ _ h => h)) (pa_cons (pv 1) (pa_cons pe_int (pa_cons pe_int pa_nil)))⟩
theorem lk_10 (T : Txt K mg) (G_cuts : FnOk PG w K mg base (L2.CX PG w) 10 T.f_cuts.f T.f_cuts.fd ["net", "start", "goal"] (sp_cuts T.C)) (f : Addr) (cdv : Value) (A : Around) (outer : List Env) (s : Shared) (H : Hp) (E : XK) : LamK (xNR w K mg base f cdv A outer s H E) 10 (lr_10 T.C) := ⟨lamS_at (by decide +kernel), fun _ _ _ _ _ => rfl, fun A outer s H E f c hr => show PE (LamX.lamCx (xNR w K mg base _ _ _ _ _ _ _) A outer s H E (lr_10 T.C).scope f c) (lr_10 T.C).body (tCall (sp_cuts T.C) [] E (tCons (tVar 1) (tCons (tC (.int 1)) (tCons (tC (.int 1)) tNil)))) from pe_call G_cuts (hr.mono (by decide)) rfl T.f_cuts.g T.f_cuts.F.kp T.f_cuts.b .nil (passes_call (takes_of rfl rfl rfl rfl) (fun _ _ _ _ h => h)) (pa_cons (pv 1) (pa_cons pe_int (pa_cons pe_int pa_nil)))⟩
theorem lk_11 (T : Txt K mg) (G_led_on : FnOk PG w K mg base (L2.CX PG w) 8 T.f_led_on.f T.f_led_on.fd ["net", "start", "goal", "flow"] (sp_led_on T.C)) (f : Addr) (cdv : Value) (A : Around) (outer : List Env) (s : Shared) (H : Hp) (E : XK) : LamK (xNR w K mg base f cdv A outer s H E) 10 (lr_11 T.C) := ⟨lamS_at (by decide +kernel), fun _ _ _ _ _ => rfl, fun A outer s H E f c hr => show PE (LamX.lamCx (xNR w K mg base _ _ _ _ _ _ _) A outer s H E (lr_11 T.C).scope f c) (lr_11 T.C).body (tCall (sp_led_on T.C) [] E (tCons (tVar 1) (tCons (tC (.int 1)) (tCons (tC (.int 1)) (tCons (tVar 4) tNil))))) from pe_call G_led_on (hr.mono (by decide)) rfl T.f_led_on.g T.f_led_on.F.kp T.f_led_on.b .nil (passes_call (takes_of rfl rfl rfl rfl) (fun _ _ _ _ h => h)) (pa_cons (pv 1) (pa_cons pe_int (pa_cons pe_int (pa_cons (pv 4) pa_nil))))⟩
theorem lk_12 (T : Txt K mg) (G_led_on : FnOk PG w K mg base (L2.CX PG w) 8 T.f_led_on.f T.f_led_on.fd ["net", "start", "goal", "flow"] (sp_led_on T.C)) (f : Addr) (cdv : Value) (A : Around) (outer : List Env) (s : Shared) (H : Hp) (E : XK) : LamK (xNR w K mg base f cdv A outer s H E) 10 (lr_12 T.C) := ⟨lamS_at (by decide +kernel), fun _ _ _ _ _ => rfl, fun A outer s H E f c hr => show PE (LamX.lamCx (xNR w K mg base _ _ _ _ _ _ _) A outer s H E (lr_12 T.C).scope f c) (lr_12 T.C).body (tCall (sp_led_on T.C) [] E (tCons (tVar 1) (tCons (tC (.int 0)) (tCons (tC (.int 1)) (tCons (tVar 4) tNil))))) from pe_call G_led_on (hr.mono (by decide)) rfl T.f_led_on.g T.f_led_on.F.kp T.f_led_on.b .nil (passes_call (takes_of rfl rfl rfl rfl) (fun _ _ _ _ h => h)) (pa_cons (pv 1) (pa_cons pe_int (pa_cons pe_int (pa_cons (pv 4) pa_nil))))⟩
def t_law_none_right (K : PySem.W.Frag) (C P : Addr) (env : Env) (E : XK) : TS :=
    (tSeq (tAsg (tCall (sp_law_pick C) [] E0 (tCons (tVar 0) (tCons (tLst (tCons (tC .non) (tCons (tTup (tCons (tC (.int 0)) (tCons (tTup tNil) tNil))) (tCons (tTup (tCons (tC (.int 2)) (tCons (tLst (tCons (tTup (tCons (tC (.int 0)) (tCons (tC (.int 2)) (tCons (tC (.int 1)) tNil)))) tNil)) tNil))) (tCons (tTup (tCons (tC (.int 2)) (tCons (tTup (tCons (tTup (tCons (tC (.int 0)) (tCons (tC (.int 1)) tNil))) tNil)) tNil))) tNil))))) tNil))) (gName 2))
    (tSeq (tAsg (tCall (sp_law_pick C) [] E0 (tCons (tVar 0) (tCons (tLst (tCons (tC .non) (tCons (tOp (rIx K) (tVar 1) (tC (.int 0))) (tCons (tOp (rI0 fun i j => .int (i - j)) (tC (.int 0)) (tC (.int 1))) (tCons (tC (.bl true)) (tCons (tC (.str (Str.ofString "0"))) tNil)))))) tNil))) (gName 3))
    (tSeq (tAsg (tCall (sp_law_pick C) [] E0 (tCons (tVar 0) (tCons (tLst (tCons (tC .non) (tCons (tC (.int 3)) (tCons (tC (.str (Str.ofString "0"))) (tCons (tOp rRep (tLst (tCons (tC (.int 0)) tNil)) (tOp (rI0 fun i j => .int (i + j)) (tCB (rLen K) (tCons (tOp (rIx K) (tVar 1) (tC (.int 1))) tNil)) (tC (.int 1)))) (tCons (tOp rRep (tLst (tCons (tC .non) tNil)) (tOp (rI0 fun i j => .int (i + j)) (tCB (rLen K) (tCons (tOp (rIx K) (tVar 1) (tC (.int 1))) tNil)) (tC (.int 1)))) tNil)))))) tNil))) (gName 4))
    (tSeq (tAsg (tLst (tCons (tLam env P (lr_0 C)) tNil)) (gName 5))
    (tSeq (tDrop (tBM K "list" rAppend (tVar 5) (tCons (tLam env P (lr_1 C)) tNil)))
    (tSeq (tDrop (tBM K "list" rAppend (tVar 5) (tCons (tLam env P (lr_2 C)) tNil)))
    (tSeq (tIfS (tTest (tOp (rNeD K) (tLcN (iSeq K (tVar 5)) (gName 6) (fun σ => (tTest (tOp (rNeD K) (tHA C env [lr_0 C, lr_1 C, lr_2 C] (fun _ => σ) (tVar 6)) (tTup (tCons (tC (.str (Str.ofString "refused"))) (tCons (tCB rRepr (tCons (tVar 2) tNil)) (tCons (tC (.bl true)) tNil))))))) [6]) (tLst tNil))) (tRet (tC (.bl false))) tNext)
    (tSeq (tAsg (tLst (tCons (tLam env P (lr_3 C)) tNil)) (gName 5))
    (tSeq (tDrop (tBM K "list" rAppend (tVar 5) (tCons (tLam env P (lr_4 C)) tNil)))
    (tSeq (tDrop (tBM K "list" rAppend (tVar 5) (tCons (tLam env P (lr_5 C)) tNil)))
    (tSeq (tDrop (tBM K "list" rAppend (tVar 5) (tCons (tLam env P (lr_6 C)) tNil)))
    (tSeq (tDrop (tBM K "list" rAppend (tVar 5) (tCons (tLam env P (lr_7 C)) tNil)))
    (tSeq (tDrop (tBM K "list" rAppend (tVar 5) (tCons (tLam env P (lr_8 C)) tNil)))
    (tSeq (tIfS (tTest (tOp (rNeD K) (tLcN (iSeq K (tVar 5)) (gName 6) (fun σ => (tTest (tOp (rNeD K) (tHA C env [lr_3 C, lr_4 C, lr_5 C, lr_6 C, lr_7 C, lr_8 C] (fun _ => σ) (tVar 6)) (tTup (tCons (tC (.str (Str.ofString "refused"))) (tCons (tCB rRepr (tCons (tVar 3) tNil)) (tCons (tC (.bl true)) tNil))))))) [6]) (tLst tNil))) (tRet (tC (.bl false))) tNext)
    (tSeq (tAsg (tLst (tCons (tLam env P (lr_9 C)) tNil)) (gName 5))
    (tSeq (tDrop (tBM K "list" rAppend (tVar 5) (tCons (tLam env P (lr_10 C)) tNil)))
    (tSeq (tDrop (tBM K "list" rAppend (tVar 5) (tCons (tLam env P (lr_11 C)) tNil)))
    (tSeq (tIfS (tTest (tOp (rNeD K) (tLcN (iSeq K (tVar 5)) (gName 6) (fun σ => (tTest (tOp (rNeD K) (tHA C env [lr_9 C, lr_10 C, lr_11 C] (fun _ => σ) (tVar 6)) (tTup (tCons (tC (.str (Str.ofString "refused"))) (tCons (tC (.str (Str.ofString "1"))) (tCons (tC (.bl true)) tNil))))))) [6]) (tLst tNil))) (tRet (tC (.bl false))) tNext)
    (tRet (tOp (rEqD K) (tHA C env [lr_12 C] id (tLam env P (lr_12 C))) (tTup (tCons (tC (.str (Str.ofString "refused"))) (tCons (tCB rRepr (tCons (tVar 4) tNil)) (tCons (tC (.bl true)) tNil))))))))))))))))))))))))
theorem d_law_none_right (T : Txt K mg) {CO : Addr} (hc : HeC K mg T.C CO) (G_led_on : FnOk PG w K mg base (L2.CX PG w) 8 T.f_led_on.f T.f_led_on.fd ["net", "start", "goal", "flow"] (sp_led_on T.C)) (G_greatest : FnOk PG w K mg base (L2.CX PG w) 9 T.f_greatest.f T.f_greatest.fd ["net", "start", "goal"] (sp_greatest T.C)) (G_cuts : FnOk PG w K mg base (L2.CX PG w) 10 T.f_cuts.f T.f_cuts.fd ["net", "start", "goal"] (sp_cuts T.C)) (G_law_pick : FnOk PG w K mg base (L2.CX PG w) 2 T.f_law_pick.f T.f_law_pick.fd ["_law_box_here", "_law_some"] (sp_law_pick T.C)) (f : Addr) (cdv : Value) (A : Around) (outer : List Env) (s : Shared) (H : Hp) (E : XK) (hG : A.guards = some []) {P c : Addr} (TB : LamX.TabB base mg c P) (hcv : cdv = .ref c) (hr : Room 12 (A.deeper (envOfC "_law_none_right" (defScope s_law_none_right) s.heap.objs.size f cdv))) :
    PSs (xNR w K mg base f cdv A outer s H E) (defBody s_law_none_right) (t_law_none_right K T.C P (xNR w K mg base f cdv A outer s H E).env E) :=
    (pss_cons (ps_set (i := 2) sc_law_none_right.nd rfl (Or.inr rfl) (pe_call G_law_pick (hr.mono (by decide)) rfl T.f_law_pick.g T.f_law_pick.F.kp T.f_law_pick.b .nil passL (pa_cons (pv 0) (pa_cons (pe_lst (pa_cons pe_non (pa_cons (pe_tup (pa_cons pe_int (pa_cons (pe_tup pa_nil) pa_nil))) (pa_cons (pe_tup (pa_cons pe_int (pa_cons (pe_lst (pa_cons (pe_tup (pa_cons pe_int (pa_cons pe_int (pa_cons pe_int pa_nil)))) pa_nil)) pa_nil))) (pa_cons (pe_tup (pa_cons pe_int (pa_cons (pe_tup (pa_cons (pe_tup (pa_cons pe_int (pa_cons pe_int pa_nil))) pa_nil)) pa_nil))) pa_nil))))) pa_nil))))
      (pss_cons (ps_set (i := 3) sc_law_none_right.nd rfl (Or.inr rfl) (pe_call G_law_pick (hr.mono (by decide)) rfl T.f_law_pick.g T.f_law_pick.F.kp T.f_law_pick.b .nil passL (pa_cons (pv 0) (pa_cons (pe_lst (pa_cons pe_non (pa_cons (pe_ix ix_seq (pv 1) pe_int (fun _ _ => rfl)) (pa_cons (pe_op op_sub pe_int pe_int) (pa_cons pe_bl (pa_cons pe_str pa_nil)))))) pa_nil))))
      (pss_cons (ps_set (i := 4) sc_law_none_right.nd rfl (Or.inr rfl) (pe_call G_law_pick (hr.mono (by decide)) rfl T.f_law_pick.g T.f_law_pick.F.kp T.f_law_pick.b .nil passL (pa_cons (pv 0) (pa_cons (pe_lst (pa_cons pe_non (pa_cons pe_int (pa_cons pe_str (pa_cons (pe_op op_rep (pe_lst (pa_cons pe_int pa_nil)) (pe_op op_add (pe_callB call_len_seq (by rfl) T.mg_len bt_len (pa_cons (pe_ix ix_seq (pv 1) pe_int (fun _ _ => rfl)) pa_nil)) pe_int)) (pa_cons (pe_op op_rep (pe_lst (pa_cons pe_non pa_nil)) (pe_op op_add (pe_callB call_len_seq (by rfl) T.mg_len bt_len (pa_cons (pe_ix ix_seq (pv 1) pe_int (fun _ _ => rfl)) pa_nil)) pe_int)) pa_nil)))))) pa_nil))))
      (pss_cons (ps_set (i := 5) sc_law_none_right.nd rfl (Or.inl rfl) (pe_lst (pa_cons (pe_lam (l := lr_0 T.C) TB hcv rfl (lk_0 T G_greatest f cdv A outer s H E).L) pa_nil)))
      (pss_cons (ps_expr (pe_bm PySem.F.plainAttrs_list PySem.F.slot_list_append PySem.F.type_list_append mt_append (pv 5) (pa_cons (pe_lam (l := lr_1 T.C) TB hcv rfl (lk_1 T G_cuts f cdv A outer s H E).L) pa_nil)))
      (pss_cons (ps_expr (pe_bm PySem.F.plainAttrs_list PySem.F.slot_list_append PySem.F.type_list_append mt_append (pv 5) (pa_cons (pe_lam (l := lr_2 T.C) TB hcv rfl (lk_2 T G_led_on f cdv A outer s H E).L) pa_nil)))
      (pss_cons (ps_if (pt_cmpR (op_neD hr.units) (pe_lcN (own := [("_law_ask", 6)]) (g := (gName 6)) (tt := (fun σ => (tTest (tOp (rNeD K) (tHA T.C (xNR w K mg base f cdv A outer s H E).env [lr_0 T.C, lr_1 T.C, lr_2 T.C] (fun _ => σ) (tVar 6)) (tTup (tCons (tC (.str (Str.ofString "refused"))) (tCons (tCB rRepr (tCons (tVar 2) tNil)) (tCons (tC (.bl true)) tNil)))))))) rfl sc_law_none_right.nd (pi_seq (pv 5)) (blkOk_by (N := ["_law_box_here", "_law_net_here", "_law_none", "_law_bad", "_law_odd", "_law_asks", "_law_ask", "_zz"]) (sc := defScope s_law_none_right) (by decide +kernel)) (fun _ _ _ _ _ => (pg_name (i := 6) sc_law_none_right.nd rfl (by first | exact Or.inl rfl | exact Or.inr rfl))) (fun pins σ s2 H2 I C2 cl fp hf => pts_one (pt_cmpR (op_neD hr.units) (pe_heard (X := xNR w K mg base f cdv A outer s H E) (k := 10) (τ := (fun _ => σ)) T hc rfl ⟨rfl, rfl, rfl, rfl, rfl, rfl, rfl⟩ (fun _ _ _ _ J => blk_up I hf J) (hl_cons (lk_0 T G_greatest f cdv A outer s H E) (hl_cons (lk_1 T G_cuts f cdv A outer s H E) (hl_cons (lk_2 T G_led_on f cdv A outer s H E) hl_nil))) hG (hr.mono (by decide)) (pv 6)) (pe_tup (pa_cons pe_str (pa_cons (pe_callB (call_repr hG hr.units) (by rfl) T.mg_repr bt_repr (pa_cons (pv 2) pa_nil)) (pa_cons pe_bl pa_nil)))) (nomark _)))) (pe_lst pa_nil) (nomark _)) (pss_one (ps_ret pe_bl)) pss_nil)
      (pss_cons (ps_set (i := 5) sc_law_none_right.nd rfl (Or.inl rfl) (pe_lst (pa_cons (pe_lam (l := lr_3 T.C) TB hcv rfl (lk_3 T G_greatest f cdv A outer s H E).L) pa_nil)))
      (pss_cons (ps_expr (pe_bm PySem.F.plainAttrs_list PySem.F.slot_list_append PySem.F.type_list_append mt_append (pv 5) (pa_cons (pe_lam (l := lr_4 T.C) TB hcv rfl (lk_4 T G_cuts f cdv A outer s H E).L) pa_nil)))
      (pss_cons (ps_expr (pe_bm PySem.F.plainAttrs_list PySem.F.slot_list_append PySem.F.type_list_append mt_append (pv 5) (pa_cons (pe_lam (l := lr_5 T.C) TB hcv rfl (lk_5 T G_led_on f cdv A outer s H E).L) pa_nil)))
      (pss_cons (ps_expr (pe_bm PySem.F.plainAttrs_list PySem.F.slot_list_append PySem.F.type_list_append mt_append (pv 5) (pa_cons (pe_lam (l := lr_6 T.C) TB hcv rfl (lk_6 T G_greatest f cdv A outer s H E).L) pa_nil)))
      (pss_cons (ps_expr (pe_bm PySem.F.plainAttrs_list PySem.F.slot_list_append PySem.F.type_list_append mt_append (pv 5) (pa_cons (pe_lam (l := lr_7 T.C) TB hcv rfl (lk_7 T G_cuts f cdv A outer s H E).L) pa_nil)))
      (pss_cons (ps_expr (pe_bm PySem.F.plainAttrs_list PySem.F.slot_list_append PySem.F.type_list_append mt_append (pv 5) (pa_cons (pe_lam (l := lr_8 T.C) TB hcv rfl (lk_8 T G_led_on f cdv A outer s H E).L) pa_nil)))
      (pss_cons (ps_if (pt_cmpR (op_neD hr.units) (pe_lcN (own := [("_law_ask", 6)]) (g := (gName 6)) (tt := (fun σ => (tTest (tOp (rNeD K) (tHA T.C (xNR w K mg base f cdv A outer s H E).env [lr_3 T.C, lr_4 T.C, lr_5 T.C, lr_6 T.C, lr_7 T.C, lr_8 T.C] (fun _ => σ) (tVar 6)) (tTup (tCons (tC (.str (Str.ofString "refused"))) (tCons (tCB rRepr (tCons (tVar 3) tNil)) (tCons (tC (.bl true)) tNil)))))))) rfl sc_law_none_right.nd (pi_seq (pv 5)) (blkOk_by (N := ["_law_box_here", "_law_net_here", "_law_none", "_law_bad", "_law_odd", "_law_asks", "_law_ask", "_zz"]) (sc := defScope s_law_none_right) (by decide +kernel)) (fun _ _ _ _ _ => (pg_name (i := 6) sc_law_none_right.nd rfl (by first | exact Or.inl rfl | exact Or.inr rfl))) (fun pins σ s2 H2 I C2 cl fp hf => pts_one (pt_cmpR (op_neD hr.units) (pe_heard (X := xNR w K mg base f cdv A outer s H E) (k := 10) (τ := (fun _ => σ)) T hc rfl ⟨rfl, rfl, rfl, rfl, rfl, rfl, rfl⟩ (fun _ _ _ _ J => blk_up I hf J) (hl_cons (lk_3 T G_greatest f cdv A outer s H E) (hl_cons (lk_4 T G_cuts f cdv A outer s H E) (hl_cons (lk_5 T G_led_on f cdv A outer s H E) (hl_cons (lk_6 T G_greatest f cdv A outer s H E) (hl_cons (lk_7 T G_cuts f cdv A outer s H E) (hl_cons (lk_8 T G_led_on f cdv A outer s H E) hl_nil)))))) hG (hr.mono (by decide)) (pv 6)) (pe_tup (pa_cons pe_str (pa_cons (pe_callB (call_repr hG hr.units) (by rfl) T.mg_repr bt_repr (pa_cons (pv 3) pa_nil)) (pa_cons pe_bl pa_nil)))) (nomark _)))) (pe_lst pa_nil) (nomark _)) (pss_one (ps_ret pe_bl)) pss_nil)
      (pss_cons (ps_set (i := 5) sc_law_none_right.nd rfl (Or.inl rfl) (pe_lst (pa_cons (pe_lam (l := lr_9 T.C) TB hcv rfl (lk_9 T G_greatest f cdv A outer s H E).L) pa_nil)))
      (pss_cons (ps_expr (pe_bm PySem.F.plainAttrs_list PySem.F.slot_list_append PySem.F.type_list_append mt_append (pv 5) (pa_cons (pe_lam (l := lr_10 T.C) TB hcv rfl (lk_10 T G_cuts f cdv A outer s H E).L) pa_nil)))
      (pss_cons (ps_expr (pe_bm PySem.F.plainAttrs_list PySem.F.slot_list_append PySem.F.type_list_append mt_append (pv 5) (pa_cons (pe_lam (l := lr_11 T.C) TB hcv rfl (lk_11 T G_led_on f cdv A outer s H E).L) pa_nil)))
      (pss_cons (ps_if (pt_cmpR (op_neD hr.units) (pe_lcN (own := [("_law_ask", 6)]) (g := (gName 6)) (tt := (fun σ => (tTest (tOp (rNeD K) (tHA T.C (xNR w K mg base f cdv A outer s H E).env [lr_9 T.C, lr_10 T.C, lr_11 T.C] (fun _ => σ) (tVar 6)) (tTup (tCons (tC (.str (Str.ofString "refused"))) (tCons (tC (.str (Str.ofString "1"))) (tCons (tC (.bl true)) tNil)))))))) rfl sc_law_none_right.nd (pi_seq (pv 5)) (blkOk_by (N := ["_law_box_here", "_law_net_here", "_law_none", "_law_bad", "_law_odd", "_law_asks", "_law_ask", "_zz"]) (sc := defScope s_law_none_right) (by decide +kernel)) (fun _ _ _ _ _ => (pg_name (i := 6) sc_law_none_right.nd rfl (by first | exact Or.inl rfl | exact Or.inr rfl))) (fun pins σ s2 H2 I C2 cl fp hf => pts_one (pt_cmpR (op_neD hr.units) (pe_heard (X := xNR w K mg base f cdv A outer s H E) (k := 10) (τ := (fun _ => σ)) T hc rfl ⟨rfl, rfl, rfl, rfl, rfl, rfl, rfl⟩ (fun _ _ _ _ J => blk_up I hf J) (hl_cons (lk_9 T G_greatest f cdv A outer s H E) (hl_cons (lk_10 T G_cuts f cdv A outer s H E) (hl_cons (lk_11 T G_led_on f cdv A outer s H E) hl_nil))) hG (hr.mono (by decide)) (pv 6)) (pe_tup (pa_cons pe_str (pa_cons pe_str (pa_cons pe_bl pa_nil)))) (nomark _)))) (pe_lst pa_nil) (nomark _)) (pss_one (ps_ret pe_bl)) pss_nil)
      (pss_one (ps_ret (pe_cmpR (op_eqD hr.units) (pe_heard (X := xNR w K mg base f cdv A outer s H E) (k := 10) (τ := id) T hc rfl ⟨rfl, rfl, rfl, rfl, rfl, rfl, rfl⟩ (fun _ _ _ _ J => inv_drop J) (hl_cons (lk_12 T G_led_on f cdv A outer s H E) hl_nil) hG (hr.mono (by decide)) (pe_lam (l := lr_12 T.C) TB hcv rfl (lk_12 T G_led_on f cdv A outer s H E).L)) (pe_tup (pa_cons pe_str (pa_cons (pe_callB (call_repr hG hr.units) (by rfl) T.mg_repr bt_repr (pa_cons (pv 4) pa_nil)) (pa_cons pe_bl pa_nil)))) (nomark _))))))))))))))))))))))
end
end DL
/-! what is no net, no node, no flow; what the def that tries them promises -/
namespace DL
open PySem L2
/-- shown without care -/
structure Pl (d : PyData) : Prop where
  sh : Shw d
  so : sok d.shown
theorem Sm.str0 : Sm 64 0 (.str (Str.ofString "0")) := ⟨by decide +kernel, by simp [PyData.hasDict], by decide +kernel, by decide +kernel, by simp [PyData.depth]⟩
def noneL : List PyData := [.none, .tuple [iD 0, .tuple []], .tuple [iD 2, .list [.tuple [iD 0, iD 2, iD 1]]], .tuple [iD 2, .tuple [.tuple [iD 0, iD 1]]]]
def badL (n : Nat) : List PyData := [.none, iD n, .int (0 - 1), .bool true, .str (Str.ofString "0")]
def oddL (m : Nat) : List PyData := [.none, .int 3, .str (Str.ofString "0"), .list (List.replicate (m + 1) (.int 0)), .list (List.replicate (m + 1) .none)]
theorem noneL_ok {d : PyData} (h : d ∈ noneL) : netOf d = none ∧ NetSz d ∧ Pl d := by
  unfold noneL at h
  simp only [List.mem_cons, List.not_mem_nil, or_false] at h
  have i0 : Sm 64 0 (iD 0) := .int (by decide)
  have i1 : Sm 64 0 (iD 1) := .int (by decide)
  have i2 : Sm 64 0 (iD 2) := .int (by decide)
  rcases h with rfl | rfl | rfl | rfl
  · exact ⟨rfl, fun a b xs e => (by cases e), Sm.none.shw (by decide) (by decide), sok_shown _ rfl⟩
  · refine ⟨rfl, fun a b xs e1 e2 => ?_, (Sm.tuple (W := 195) (D := 1) (n := 2) (fun x hx => ?_) (by decide)).shw (by decide) (by decide), sok_shown _ rfl⟩
    · cases e1; cases e2; decide
    · simp only [List.mem_cons, List.not_mem_nil, or_false] at hx
      rcases hx with rfl | rfl
      · exact i0.mono (by decide) (by decide)
      · exact (Sm.tuple (W := 64) (D := 0) (n := 1) (fun x hx => absurd hx List.not_mem_nil) (by decide)).mono (by decide) (by decide)
  · refine ⟨by decide +kernel, fun a b xs e1 e2 => ?_, (Sm.tuple (W := 400) (D := 2) (n := 2) (fun x hx => ?_) (by decide)).shw (by decide) (by decide), sok_shown _ rfl⟩
    · cases e1; cases e2; decide
    · simp only [List.mem_cons, List.not_mem_nil, or_false] at hx
      rcases hx with rfl | rfl
      · exact i2.mono (by decide) (by decide)
      · refine (Sm.list (W := 195) (D := 1) (n := 1) (fun x hx => ?_) (by decide)).mono (by decide) (by decide)
        obtain rfl : x = _ := by simpa using hx
        refine (Sm.tuple (W := 64) (D := 0) (n := 3) (fun x hx => ?_) (by decide)).mono (by decide) (by decide)
        simp only [or_false, List.mem_cons, List.not_mem_nil] at hx
        rcases hx with rfl | rfl | rfl
        · exact i0
        · exact i2
        · exact i1
  · refine ⟨by decide +kernel, fun a b xs e1 e2 => ?_, (Sm.tuple (W := 400) (D := 2) (n := 2) (fun x hx => ?_) (by decide)).shw (by decide) (by decide), sok_shown _ rfl⟩
    · cases e1; cases e2; decide
    · simp only [List.mem_cons, List.not_mem_nil, or_false] at hx
      rcases hx with rfl | rfl
      · exact i2.mono (by decide) (by decide)
      · refine (Sm.tuple (W := 195) (D := 1) (n := 1) (fun x hx => ?_) (by decide)).mono (by decide) (by decide)
        obtain rfl : x = _ := by simpa using hx
        refine (Sm.tuple (W := 64) (D := 0) (n := 2) (fun x hx => ?_) (by decide)).mono (by decide) (by decide)
        simp only [or_false, List.mem_cons, List.not_mem_nil] at hx
        rcases hx with rfl | rfl
        · exact i0
        · exact i1
theorem badL_ok {n : Nat} (hn : n ≤ 2000) {d : PyData} (h : d ∈ badL n) : ndOf n d = none ∧ Pl d := by
  unfold badL at h
  simp only [List.mem_cons, List.not_mem_nil, or_false] at h
  rcases h with rfl | rfl | rfl | rfl | rfl
  · exact ⟨rfl, Sm.none.shw (by decide) (by decide), sok_shown _ rfl⟩
  · refine ⟨?_, (Sm.int (by show n < _; omega)).shw (by decide) (by decide), sok_shown _ rfl⟩
    show (if 0 ≤ (n : Int) ∧ (n : Int) < n then some (n : Int).toNat else none) = none
    rw [if_neg (by omega)]
  · exact ⟨by show (if 0 ≤ (0 - 1 : Int) ∧ (0 - 1 : Int) < n then some (0 - 1 : Int).toNat else none) = none; rw [if_neg (by omega)], (Sm.int (by decide)).shw (by decide) (by decide), sok_shown _ rfl⟩
  · exact ⟨rfl, (Sm.bool true).shw (by decide) (by decide), sok_shown _ rfl⟩
  · exact ⟨rfl, Sm.str0.shw (by decide) (by decide), sok_shown _ rfl⟩
theorem plain_rep {x : PyData} (hx : plainD x = true) : ∀ m, plainEach (List.replicate m x) = true
  | 0 => rfl
  | m + 1 => by
    show (plainD x && plainEach (List.replicate m x)) = true
    rw [hx, plain_rep hx m]; rfl
theorem oddL_ok {n : Nat} {as : List FM.Arc} (hm : as.length ≤ 1000) {d : PyData} (h : d ∈ oddL as.length) : VSz d ∧ isFit n as 0 1 d = false ∧ Pl d := by
  unfold oddL at h
  simp only [List.mem_cons, List.not_mem_nil, or_false] at h
  have rep : ∀ x : PyData, Sm 64 0 x → plainD x = true → Pl (.list (List.replicate (as.length + 1) x)) := fun x sx px => ⟨(Sm.list (n := 1001) (fun y hy => by rw [(List.mem_replicate.mp hy).2]; exact sx) (by rw [List.length_replicate]; omega)).shw (by decide) (by decide), sok_shown _ (plain_rep px _)⟩
  have vs : ∀ x : PyData, VSz (.list (List.replicate (as.length + 1) x)) := fun x xs e => by
    cases e; rw [List.length_replicate]; omega
  rcases h with rfl | rfl | rfl | rfl | rfl
  · exact ⟨fun xs e => (by cases e), rfl, Sm.none.shw (by decide) (by decide), sok_shown _ rfl⟩
  · exact ⟨fun xs e => (by cases e), rfl, (Sm.int (by decide)).shw (by decide) (by decide), sok_shown _ rfl⟩
  · exact ⟨fun xs e => (by cases e), rfl, Sm.str0.shw (by decide) (by decide), sok_shown _ rfl⟩
  · refine ⟨vs _, ?_, rep _ (.int (by decide)) rfl⟩
    have e : loadOf (.list (List.replicate (as.length + 1) (.int 0))) = some (List.replicate (as.length + 1) 0) := by
      show (if (List.replicate (as.length + 1) (PyData.int 0)).all isNum then some ((List.replicate (as.length + 1) (PyData.int 0)).map toI) else none) = _
      rw [if_pos (by rw [List.all_replicate]; split <;> rfl), List.map_replicate]; rfl
    unfold isFit isLoad
    rw [e]
    simp
  · refine ⟨vs _, ?_, rep _ (Sm.none.mono (by decide) (by decide)) rfl⟩
    have e : loadOf (.list (List.replicate (as.length + 1) .none)) = none := by
      show (if (List.replicate (as.length + 1) PyData.none).all isNum then some ((List.replicate (as.length + 1) PyData.none).map toI) else none) = _
      rw [if_neg (by rw [List.all_replicate]; simp [isNum])]
    unfold isFit isLoad
    rw [e]
    rfl
end DL
/-! the promise; each lambda is refused -/
namespace DL
open PySem PySem.Spec PyProof.Rows L2
abbrev qNR : Str := lqual (envOfC "_law_none_right" (defScope s_law_none_right) 0 0 .none)
/-- what stands behind the call: the box another, the table grown -/
structure Exn (bx P : Addr) (ps : Array Value) (G H G' H' : Hp) (ps' : Array Value) : Prop where
  g : Ex G G'
  h : ∀ a o, a ≠ bx → ¬ TOwn P ps a → H a = some o → H' a = some o
  b : ∃ i j, H' bx = some (.lst [.int i, .int j])
  s : Ex G' H'
  n : ∀ a, G' a ≠ none → G a ≠ none ∨ H a = none
  t : H' P = some (.tbl ps')
  k : TabK qNR H' ps'
  o : ∀ a, TOwn P ps' a → G' a = none ∧ a ≠ bx ∧ (TOwn P ps a ∨ H a = none)
structure NrIn (P : Addr) (G H : Hp) (bx : Addr) (v : V) (ps : Array Value) (n : Nat) (as : List FM.Arc) : Prop where
  s : Ex G H
  gb : G bx = none
  hb : ∃ i j, H bx = some (.lst [.int i, .int j])
  dv : Dg G v (netD n as)
  ok : NetOk n as
  n2 : 2 ≤ n
  t : H P = some (.tbl ps)
  k : TabK qNR H ps
  o : ∀ a, TOwn P ps a → G a = none ∧ a ≠ bx
def sp_law_none_right (P : Addr) (_ : Addr) : Sp := fun vs H Q _ => ∃ G n as bx v ps, vs = [.ref bx, v] ∧ NrIn P G H bx v ps n as ∧ ∀ G' H' ps', Exn bx P ps G H G' H' ps' → Q (.bl true) H'
section
variable {P bx : Addr} {G H G' H' : Hp} {v : V} {ps ps' : Array Value} {n : Nat} {as : List FM.Arc} {σ : L2.St} {δ : Fm}
abbrev eNR (P bx : Addr) (ps : Array Value) (G H : Hp) : Ent := ⟨G, H, fun a => a = bx ∨ TOwn P ps a⟩
abbrev fNR (P bx : Addr) (v : V) (n : Nat) (as : List FM.Arc) (c2 c3 c4 : Cell) (q : Str) (ps : Array Value) : Fm := [.b bx, .p v (netD n as), c2, c3, c4, .no, .no, .t P q ps]
theorem NrIn.begin (i : NrIn P G H bx v ps n as) : Sd (eNR P bx ps G H) (fNR P bx v n as .no .no .no qNR ps) G H (L2.start NNR [.ref bx, v]) := by
  obtain ⟨x, y, hb⟩ := i.hb
  have nb : ∀ a, TOwn P ps a → H a ≠ none := fun a w => by
    rcases w with w | ⟨pos, w⟩
    · rw [w, i.t]; exact Option.some_ne_none _
    · obtain ⟨c, e1, e2⟩ := i.k.2 pos _ w
      cases e1; rw [e2]; exact Option.some_ne_none _
  refine ⟨i.s, Ex.rfl', fun _ _ z _ => z, fun _ z => .inl z, fun a z => ?_, rfl, fun j c hc => ?_, fun j c a hc w => ?_, fun j k c d a hc hd w w' => ?_⟩
  · rcases z with z | z
    · rw [z, hb]; exact Option.some_ne_none _
    · exact nb a z
  · match j, hc with
    | 0, hc => cases hc; exact ⟨rfl, x, y, hb⟩
    | 1, hc => cases hc; exact ⟨rfl, i.dv⟩
    | 2, hc => cases hc; trivial
    | 3, hc => cases hc; trivial
    | 4, hc => cases hc; trivial
    | 5, hc => cases hc; trivial
    | 6, hc => cases hc; trivial
    | 7, hc => cases hc; exact ⟨i.t, i.k.1, i.k.2⟩
    | j + 8, hc => cases hc
  · match j, hc with
    | 0, hc => cases hc; cases (show some (some (V.ref bx)) = some (some (V.ref a)) from w); exact ⟨.inl (.inl rfl), i.gb⟩
    | 1, hc => cases hc; exact w.elim
    | 2, hc => cases hc; exact w.elim
    | 3, hc => cases hc; exact w.elim
    | 4, hc => cases hc; exact w.elim
    | 5, hc => cases hc; exact w.elim
    | 6, hc => cases hc; exact w.elim
    | 7, hc => cases hc; exact ⟨.inl (.inr w), (i.o a w).1⟩
    | j + 8, hc => cases hc
  · have own : ∀ {j : Nat} {c : Cell}, (fNR P bx v n as .no .no .no qNR ps)[j]? = some c → Own (L2.start NNR [.ref bx, v])[j]? a c → (j = 0 ∧ a = bx) ∨ (j = 7 ∧ TOwn P ps a) := fun {j c} hc w => by
      match j, hc with
      | 0, hc => cases hc; cases (show some (some (V.ref bx)) = some (some (V.ref a)) from w); exact .inl ⟨rfl, rfl⟩
      | 1, hc => cases hc; exact w.elim
      | 2, hc => cases hc; exact w.elim
      | 3, hc => cases hc; exact w.elim
      | 4, hc => cases hc; exact w.elim
      | 5, hc => cases hc; exact w.elim
      | 6, hc => cases hc; exact w.elim
      | 7, hc => cases hc; exact .inr ⟨rfl, w⟩
      | j + 8, hc => cases hc
    rcases own hc w with ⟨z1, z2⟩ | ⟨z1, z2⟩ <;> rcases own hd w' with ⟨y1, y2⟩ | ⟨y1, y2⟩
    · rw [z1, y1]
    · exact absurd z2 (i.o a y2).2
    · exact absurd y2 (i.o a z2).2
    · rw [z1, y1]
theorem exn_of (S : Sd (eNR P bx ps G H) δ G' H' σ) (h0 : δ[0]? = some (.b bx)) (h7 : δ[7]? = some (.t P qNR ps')) : Exn bx P ps G H G' H' ps' := by
  obtain ⟨b1, b2, b3, b4⟩ := S.box h0
  obtain ⟨t1, t2, t3⟩ := S.table h7
  refine ⟨S.grow, fun a o z1 z2 ha => S.old a o ha fun w => w.elim z1 z2, b2, S.sub, S.new, t1, t2, fun a w => ?_⟩
  obtain ⟨o1, o2⟩ := S.own 7 _ a h7 w
  have nb : a ≠ bx := fun z => by
    have := S.apart 7 0 _ _ a h7 h0 w (by rw [z]; exact b1)
    cases this
  refine ⟨o2, nb, ?_⟩
  rcases o1 with (z | z) | z
  · exact absurd z nb
  · exact .inl z
  · exact .inr z
/-- values alone -/
theorem Sd.pure (hs : Ex G H) (hl : σ.length = δ.length) (hc : ∀ (i : Nat) (c : Cell), δ[i]? = some c → c = .no ∨ ∃ w x, c = .p w x ∧ σ[i]? = some (some w) ∧ Dg G w x) : Sd ⟨G, H, fun _ => False⟩ δ G H σ := by
  have no : ∀ {i : Nat} {c : Cell} {a : Addr}, δ[i]? = some c → ¬ Own σ[i]? a c := fun {i c a} h w => by
    rcases hc i c h with z | ⟨_, _, z, _⟩ <;> (subst z; exact w)
  refine ⟨hs, Ex.rfl', fun _ _ z _ => z, fun _ z => .inl z, fun _ z => z.elim, hl, fun i c h => ?_, fun i c a h w => absurd w (no h), fun i j c d a h _ w _ => absurd w (no h)⟩
  rcases hc i c h with z | ⟨w, x, z, h1, h2⟩
  · subst z; trivial
  · subst z; exact ⟨h1, h2⟩
theorem eax_c {e : Ent} {tr : TA} {ds : List PyData} {d : PyData} {w : V} (hw : ∀ G, Dg G w d) (hr : EAD e tr δ ds) : EAx e (tCons (tC w) tr) δ (d :: ds) 0 w := fun σ G H Q S k => hr σ G H _ S fun ds' vs G1 H1 r g q => k _ G1 H1 g (by subst r; exact .cons (hw _) q) rfl
/-- a lambda that is refused, by its body's reading over values -/
theorem ref_of {C : Addr} {l : LamR} {d : PyData} {w : V} {F : Fm} (hw : Dg G w d) (hl : σ.length = F.length) (hc : ∀ (i : Nat) (c : Cell), F[i]? = some c → c = .no ∨ ∃ w x, c = .p w x ∧ σ[i]? = some (some w) ∧ Dg G w x) (h : ∀ (e : Ent) (E : XK), XR e (l.t E) F C E w) : LamRef C G σ l d := by
  refine ⟨w, hw, fun H' hs E rz => h ⟨G, H', fun _ => False⟩ E σ G H' _ (Sd.pure hs hl hc) fun dx G1 H1 g hn hx => rz dx H1 (fun a o ha => g.k a o ha fun i b hi hs => ?_) hn hx⟩
  rcases hc i _ hi with z | ⟨_, _, z, _⟩ <;> cases z
end
end DL
/-! what is no net, start, goal, flow is refused -/
namespace DL
open PySem PySem.Spec PyProof.Rows L2
section
variable {P bx C : Addr} {G H G' H' : Hp} {v : V} {ps ps' : Array Value} {n : Nat} {as : List FM.Arc} {σ : L2.St} {e : Ent} {q : Str} {dn db dO : PyData}
structure Bads (n : Nat) (as : List FM.Arc) (dn db dO : PyData) : Prop where
  ok : NetOk n as
  n2 : 2 ≤ n
  nn : netOf dn = none
  nz : NetSz dn
  np : Pl dn
  bb : ndOf n db = none
  bp : Pl db
  oz : VSz dO
  oo : isFit n as 0 1 dO = false
  op : Pl dO
structure Refs (C : Addr) (G : Hp) (σ : L2.St) (dn db dO : PyData) : Prop where
  r0 : LamRef C G σ (lr_0 C) dn
  r1 : LamRef C G σ (lr_1 C) dn
  r2 : LamRef C G σ (lr_2 C) dn
  r3 : LamRef C G σ (lr_3 C) db
  r4 : LamRef C G σ (lr_4 C) db
  r5 : LamRef C G σ (lr_5 C) db
  r6 : LamRef C G σ (lr_6 C) db
  r7 : LamRef C G σ (lr_7 C) db
  r8 : LamRef C G σ (lr_8 C) db
  r9 : LamRef C G σ (lr_9 C) (.int 1)
  r10 : LamRef C G σ (lr_10 C) (.int 1)
  r11 : LamRef C G σ (lr_11 C) (.int 1)
  r12 : LamRef C G σ (lr_12 C) dO
theorem refs (S : Sd e (fNR P bx v n as (.d dn) (.d db) (.d dO) q ps) G H σ) (b : Bads n as dn db dO) : Refs C G σ dn db dO := by
  obtain ⟨s1, g1⟩ := S.cells 1 _ rfl
  obtain ⟨w2, s2, g2⟩ := S.cells 2 _ rfl
  obtain ⟨w3, s3, g3⟩ := S.cells 3 _ rfl
  obtain ⟨w4, s4, g4⟩ := S.cells 4 _ rfl
  let F : Fm := [.no, .p v (netD n as), .p w2 dn, .p w3 db, .p w4 dO, .no, .no, .no]
  have hl : σ.length = F.length := S.len
  have hc : ∀ (i : Nat) (c : Cell), F[i]? = some c → c = .no ∨ ∃ w x, c = .p w x ∧ σ[i]? = some (some w) ∧ Dg G w x := fun i c h => by
    match i, h with
    | 0, h => cases h; exact .inl rfl
    | 1, h => cases h; exact .inr ⟨_, _, rfl, s1, g1⟩
    | 2, h => cases h; exact .inr ⟨_, _, rfl, s2, g2⟩
    | 3, h => cases h; exact .inr ⟨_, _, rfl, s3, g3⟩
    | 4, h => cases h; exact .inr ⟨_, _, rfl, s4, g4⟩
    | 5, h => cases h; exact .inl rfl
    | 6, h => cases h; exact .inl rfl
    | 7, h => cases h; exact .inl rfl
    | i + 8, h => cases h
  have nt := netOf_netD b.ok
  have h0 := nd_of (n := n) (a := 0) (by have := b.n2; omega)
  have h1 := nd_of (n := n) (a := 1) (by have := b.n2; omega)
  have pN : ∀ s g, badPair dn s g = some 0 := fun s g => by unfold badPair; rw [b.nn]
  have fN : ∀ s g v, badFit dn s g v = some 0 := fun s g v => by unfold badFit; rw [b.nn]
  have p1 : ∀ g, badPair (netD n as) db g = some 1 := fun g => by unfold badPair; rw [nt]; show badPr n db g = _; unfold badPr; rw [b.bb]
  have f1 : ∀ g v, badFit (netD n as) db g v = some 1 := fun g v => by unfold badFit; rw [nt]; simp only [b.bb]
  have p2 : badPair (netD n as) (iD 0) db = some 2 := by unfold badPair; rw [nt]; show badPr n (iD 0) db = _; unfold badPr; rw [h0]; simp only [b.bb]
  have f2 : ∀ v, badFit (netD n as) (iD 0) db v = some 2 := fun v => by unfold badFit; rw [nt]; simp only [h0, b.bb]
  have p3 : badPair (netD n as) (iD 1) (iD 1) = some 2 := by unfold badPair; rw [nt]; show badPr n (iD 1) (iD 1) = _; unfold badPr; rw [h1]; simp
  have f3 : ∀ v, badFit (netD n as) (iD 1) (iD 1) v = some 2 := fun v => by unfold badFit; rw [nt]; simp [h1]
  have f4 : badFit (netD n as) (iD 0) (iD 1) dO = some 3 := by unfold badFit; rw [nt]; simp [h0, h1, b.oo]
  refine ⟨ref_of g2 hl hc fun e E => show XR e (tCall (sp_greatest C) [] E (tCons (tVar 2) (tCons (tVar 3) (tCons (tVar 3) tNil)))) F C E w2 from xr_call (⟨dn, db, db⟩ : Q3) (eax_here rfl (ea_c (ed_var rfl) (ea_c (ed_var rfl) ea_nil))) b.nz (pN _ _),
    ref_of g2 hl hc fun e E => show XR e (tCall (sp_cuts C) [] E (tCons (tVar 2) (tCons (tVar 3) (tCons (tVar 3) tNil)))) F C E w2 from xr_call (⟨dn, db, db⟩ : Q3) (eax_here rfl (ea_c (ed_var rfl) (ea_c (ed_var rfl) ea_nil))) b.nz (pN _ _),
    ref_of g2 hl hc fun e E => show XR e (tCall (sp_led_on C) [] E (tCons (tVar 2) (tCons (tVar 3) (tCons (tVar 3) (tCons (tVar 4) tNil))))) F C E w2 from xr_call (⟨dn, db, db, dO⟩ : Q4) (eax_here rfl (ea_c (ed_var rfl) (ea_c (ed_var rfl) (ea_c (ed_var rfl) ea_nil)))) (And.intro b.nz b.oz) (fN _ _ _),
    ref_of g3 hl hc fun e E => show XR e (tCall (sp_greatest C) [] E (tCons (tVar 1) (tCons (tVar 3) (tCons (tVar 3) tNil)))) F C E w3 from xr_call (⟨netD n as, db, db⟩ : Q3) (eax_next (ed_var rfl) (eax_here rfl (ea_c (ed_var rfl) ea_nil))) b.ok.sz' (p1 _),
    ref_of g3 hl hc fun e E => show XR e (tCall (sp_cuts C) [] E (tCons (tVar 1) (tCons (tVar 3) (tCons (tVar 3) tNil)))) F C E w3 from xr_call (⟨netD n as, db, db⟩ : Q3) (eax_next (ed_var rfl) (eax_here rfl (ea_c (ed_var rfl) ea_nil))) b.ok.sz' (p1 _),
    ref_of g3 hl hc fun e E => show XR e (tCall (sp_led_on C) [] E (tCons (tVar 1) (tCons (tVar 3) (tCons (tVar 3) (tCons (tVar 4) tNil))))) F C E w3 from xr_call (⟨netD n as, db, db, dO⟩ : Q4) (eax_next (ed_var rfl) (eax_here rfl (ea_c (ed_var rfl) (ea_c (ed_var rfl) ea_nil)))) (And.intro b.ok.sz' b.oz) (f1 _ _),
    ref_of g3 hl hc fun e E => show XR e (tCall (sp_greatest C) [] E (tCons (tVar 1) (tCons (tC (.int 0)) (tCons (tVar 3) tNil)))) F C E w3 from xr_call (⟨netD n as, iD 0, db⟩ : Q3) (eax_next (ed_var rfl) (eax_next ed_int (eax_here rfl ea_nil))) b.ok.sz' p2,
    ref_of g3 hl hc fun e E => show XR e (tCall (sp_cuts C) [] E (tCons (tVar 1) (tCons (tC (.int 0)) (tCons (tVar 3) tNil)))) F C E w3 from xr_call (⟨netD n as, iD 0, db⟩ : Q3) (eax_next (ed_var rfl) (eax_next ed_int (eax_here rfl ea_nil))) b.ok.sz' p2,
    ref_of g3 hl hc fun e E => show XR e (tCall (sp_led_on C) [] E (tCons (tVar 1) (tCons (tC (.int 0)) (tCons (tVar 3) (tCons (tVar 4) tNil))))) F C E w3 from xr_call (⟨netD n as, iD 0, db, dO⟩ : Q4) (eax_next (ed_var rfl) (eax_next ed_int (eax_here rfl (ea_c (ed_var rfl) ea_nil)))) (And.intro b.ok.sz' b.oz) (f2 _),
    ref_of (.int 1) hl hc fun e E => show XR e (tCall (sp_greatest C) [] E (tCons (tVar 1) (tCons (tC (.int 1)) (tCons (tC (.int 1)) tNil)))) F C E (.int 1) from xr_call (⟨netD n as, iD 1, iD 1⟩ : Q3) (eax_next (ed_var rfl) (eax_next ed_int (eax_c (fun _ => .int 1) ea_nil))) b.ok.sz' p3,
    ref_of (.int 1) hl hc fun e E => show XR e (tCall (sp_cuts C) [] E (tCons (tVar 1) (tCons (tC (.int 1)) (tCons (tC (.int 1)) tNil)))) F C E (.int 1) from xr_call (⟨netD n as, iD 1, iD 1⟩ : Q3) (eax_next (ed_var rfl) (eax_next ed_int (eax_c (fun _ => .int 1) ea_nil))) b.ok.sz' p3,
    ref_of (.int 1) hl hc fun e E => show XR e (tCall (sp_led_on C) [] E (tCons (tVar 1) (tCons (tC (.int 1)) (tCons (tC (.int 1)) (tCons (tVar 4) tNil))))) F C E (.int 1) from xr_call (⟨netD n as, iD 1, iD 1, dO⟩ : Q4) (eax_next (ed_var rfl) (eax_next ed_int (eax_c (fun _ => .int 1) (ea_c (ed_var rfl) ea_nil)))) (And.intro b.ok.sz' b.oz) (f3 _),
    ref_of g4 hl hc fun e E => show XR e (tCall (sp_led_on C) [] E (tCons (tVar 1) (tCons (tC (.int 0)) (tCons (tC (.int 1)) (tCons (tVar 4) tNil))))) F C E w4 from xr_call (⟨netD n as, iD 0, iD 1, dO⟩ : Q4) (eax_next (ed_var rfl) (eax_next ed_int (eax_next ed_int (eax_here rfl ea_nil)))) (And.intro b.ok.sz' b.oz) f4⟩
theorem tx_ok {σ4 : L2.St} {H4 : Hp} {Q : VK} {i : Nat} {w : V} {d : PyData} (h : σ4[i]? = some (some w)) (hd : Dg H4 w d) (hs : Shw d) (k : ∀ p, H4 p = none → Q (.ref p) (upd H4 p (.tup (refD d)))) :
    tTup (tCons (tC (.str (Str.ofString "refused"))) (tCons (tCB rRepr (tCons (tVar i) tNil)) (tCons (tC (.bl true)) tNil))) σ4 H4 Q := ⟨w, h, w, d, rfl, hd, hs, show 3 ≤ sizeLine by decide, k⟩
theorem tx_one {σ4 : L2.St} {H4 : Hp} {Q : VK} (k : ∀ p, H4 p = none → Q (.ref p) (upd H4 p (.tup (refD (.int 1))))) :
    tTup (tCons (tC (.str (Str.ofString "refused"))) (tCons (tC (.str (Str.ofString "1"))) (tCons (tC (.bl true)) tNil))) σ4 H4 Q := by
  have e : refD (.int 1) = [.str (Str.ofString "refused"), .str (Str.ofString "1"), .bl true] := by
    have : (PyData.int 1).shown = Str.ofString "1" := by decide +kernel
    unfold refD
    rw [this]
  rw [e] at k
  exact ⟨show 3 ≤ sizeLine by decide, k⟩
theorem mem3 {p : LamR → Prop} {a b c : LamR} (h1 : p a) (h2 : p b) (h3 : p c) : ∀ l ∈ [a, b, c], p l := fun l h => by
  simp only [List.mem_cons, List.not_mem_nil, or_false] at h
  rcases h with rfl | rfl | rfl <;> assumption
theorem mem6 {p : LamR → Prop} {a b c d e f : LamR} (h1 : p a) (h2 : p b) (h3 : p c) (h4 : p d) (h5 : p e) (h6 : p f) : ∀ l ∈ [a, b, c, d, e, f], p l := fun l h => by
  simp only [List.mem_cons, List.not_mem_nil, or_false] at h
  rcases h with rfl | rfl | rfl | rfl | rfl | rfl <;> assumption
variable {K : PySem.W.Frag} {E E' : XK} {vs : List V} {Q : VK}
theorem pu_law_none_right (h : sp_law_none_right P C vs H Q E) (sz : Nat) (f : Addr) (cdv : Value) : t_law_none_right K C P (envOfC "_law_none_right" (defScope s_law_none_right) sz f cdv) E' { nx := fun _ H' => Q .non H', rt := Q } (L2.start NNR vs) H := by
  obtain ⟨G, n, as, bx, v, ps, rfl, i, hq⟩ := h
  have ok := i.ok
  have hB : (eNR P bx ps G H).B P := .inr (.inl rfl)
  have n2000 := ok.n1
  have len1 : ∀ {δ : Fm}, (δ[1]?).bind cellD = some (netD n as) → ED (eNR P bx ps G H) (tOp (rI0 fun i j => .int (i + j)) (tCB (rLen K) (tCons (tOp (rIx K) (tVar 1) (tC (.int 1))) tNil)) (tC (.int 1))) δ (iD (as.length + 1)) := fun {δ} h1 =>
    ER.is (ed_add (ed_len rfl (ed_ix (n := 1) (d := arcsD as) (da := netD n as) (ed_var h1) ed_int .t rfl) .t) ed_int) (by rw [List.length_map]; rfl)
  refine q_asg i.begin (ed_callB rfl noneL (ea_c (el_ed (el_lst (ea_c ed_non (ea_c (ed_tup (ea_c ed_int (ea_c (ed_tup ea_nil (by decide)) ea_nil)) (by decide)) (ea_c (ed_tup (ea_c ed_int (ea_c (el_ed (el_lst (ea_c (ed_tup (ea_c ed_int (ea_c ed_int (ea_c ed_int ea_nil))) (by decide)) ea_nil) (fun _ q => by rw [q]; decide))) ea_nil)) (by decide)) (ea_c (ed_tup (ea_c ed_int (ea_c (ed_tup (ea_c (ed_tup (ea_c ed_int (ea_c ed_int ea_nil)) (by decide)) ea_nil) (by decide)) ea_nil)) (by decide)) ea_nil)))) (fun _ q => by rw [q]; decide))) ea_nil) ⟨by decide, by decide⟩ fun d q => q) fun dn w1 G1 H1 ⟨k1, hk1⟩ _ _ S1 => ?_
  have S1 : Sd (eNR P bx ps G H) (fNR P bx v n as (.d dn) .no .no qNR ps) G1 H1 _ := S1
  refine q_asg S1 (ed_callB rfl (badL n) (ea_c (el_ed (el_lst (ea_c ed_non (ea_c (ed_ix (n := 0) (d := iD n) (da := netD n as) (ed_var rfl) ed_int .t rfl) (ea_c (ed_sub ed_int ed_int) (ea_c ed_bl (ea_c ed_str ea_nil))))) (fun _ q => by rw [q]; exact (show 5 ≤ 1000000 by decide)))) ea_nil) ⟨show 0 < 5 by decide, show 5 ≤ 100000 by decide⟩ fun d q => q) fun db w2 G2 H2 ⟨k2, hk2⟩ _ _ S2 => ?_
  have S2 : Sd (eNR P bx ps G H) (fNR P bx v n as (.d dn) (.d db) .no qNR ps) G2 H2 _ := S2
  have rp : ∀ x : PyData, (List.replicate (as.length + 1) [x]).flatten = List.replicate (as.length + 1) x := fun x => by rw [List.flatten_replicate_singleton]
  refine q_asg S2 (ed_callB rfl (oddL as.length) (ea_c (el_ed (el_lst (ea_c ed_non (ea_c ed_int (ea_c ed_str (ea_c (ER.is (ed_rep (n := as.length + 1) (el_ed (el_lst (ea_c ed_int ea_nil) fun _ q => by rw [q]; exact (show 1 ≤ 1000000 by decide))) (len1 rfl) (by show 1 * _ ≤ _; have := ok.sz; omega) (by have := ok.sz; omega)) (congrArg PyData.list (rp _))) (ea_c (ER.is (ed_rep (n := as.length + 1) (el_ed (el_lst (ea_c ed_non ea_nil) fun _ q => by rw [q]; exact (show 1 ≤ 1000000 by decide))) (len1 rfl) (by show 1 * _ ≤ _; have := ok.sz; omega) (by have := ok.sz; omega)) (congrArg PyData.list (rp _))) ea_nil))))) (fun _ q => by rw [q]; exact (show 5 ≤ 1000000 by decide)))) ea_nil) ⟨show 0 < 5 by decide, show 5 ≤ 100000 by decide⟩ fun d q => q) fun dO w3 G3 H3 ⟨k3, hk3⟩ _ _ S3 => ?_
  have S3 : Sd (eNR P bx ps G H) (fNR P bx v n as (.d dn) (.d db) (.d dO) qNR ps) G3 H3 _ := S3
  obtain ⟨a1, a2, a3⟩ := noneL_ok (List.mem_of_getElem? hk1)
  obtain ⟨b1, b2⟩ := badL_ok n2000 (List.mem_of_getElem? hk2)
  obtain ⟨c1, c2, c3⟩ := oddL_ok (n := n) ok.sz (List.mem_of_getElem? hk3)
  have bd : Bads n as dn db dO := ⟨ok, i.n2, a1, a2, a3, b1, b2, c1, c2, c3⟩
  generalize ((L2.start NNR [V.ref bx, v]).set 2 (some w1)).set 3 (some w2) = σ0 at S3
  generalize σ0.set 4 (some w3) = σ at S3
  have hl5 : ∀ {ps1 : Array Value} {G1 H1 : Hp} {σ1 : L2.St}, Sd (eNR P bx ps G H) (fNR P bx v n as (.d dn) (.d db) (.d dO) qNR ps1) G1 H1 σ1 → σ1.length = 8 := fun S => S.len
  refine q_ask0 (it := 7) S3 rfl hB rfl (by rw [hl5 S3]; decide) fun ps1 p1 H4 A1 => ?_
  refine q_ask1 (it := 7) A1 rfl hB (show 1 < 1000000 by decide) fun ps2 H5 A2 => ?_
  refine q_ask1 (it := 7) A2 rfl hB (show 2 < 1000000 by decide) fun ps3 H6 A3 => ?_
  have S6 : Sd (eNR P bx ps G H) (fNR P bx v n as (.d dn) (.d db) (.d dO) qNR ps3) G3 H6 _ := A3.S
  have R6 := refs (C := C) S6 bd
  obtain ⟨w, s2, g2⟩ := S6.cells 2 _ rfl
  refine q_askN A3 (by decide) (by rw [hl5 S6]; decide) (mem3 R6.r0 R6.r1 R6.r2) a3.sh a3.so (fun σ4 H4 Q hs ex k => tx_ok ((hs 2 (by decide)).trans s2) (g2.up ex) a3.sh k) fun H7 S7 => ?_
  refine q_ask0 (it := 7) S7 rfl hB rfl (by rw [hl5 S7]; decide) fun ps4 p4 H8 B1 => ?_
  refine q_ask1 (it := 7) B1 rfl hB (show 1 < 1000000 by decide) fun ps5 H9 B2 => ?_
  refine q_ask1 (it := 7) B2 rfl hB (show 2 < 1000000 by decide) fun ps6 H10 B3 => ?_
  refine q_ask1 (it := 7) B3 rfl hB (show 3 < 1000000 by decide) fun ps7 H11 B4 => ?_
  refine q_ask1 (it := 7) B4 rfl hB (show 4 < 1000000 by decide) fun ps8 H12 B5 => ?_
  refine q_ask1 (it := 7) B5 rfl hB (show 5 < 1000000 by decide) fun ps9 H13 B6 => ?_
  have S13 : Sd (eNR P bx ps G H) (fNR P bx v n as (.d dn) (.d db) (.d dO) qNR ps9) G3 H13 _ := B6.S
  have R13 := refs (C := C) S13 bd
  obtain ⟨wb, s3, g3⟩ := S13.cells 3 _ rfl
  refine q_askN B6 (by decide) (by rw [hl5 S13]; decide) (mem6 R13.r3 R13.r4 R13.r5 R13.r6 R13.r7 R13.r8) b2.sh b2.so (fun σ4 H4 Q hs ex k => tx_ok ((hs 3 (by decide)).trans s3) (g3.up ex) b2.sh k) fun H14 S14 => ?_
  refine q_ask0 (it := 7) S14 rfl hB rfl (by rw [hl5 S14]; decide) fun ps10 p10 H15 C1 => ?_
  refine q_ask1 (it := 7) C1 rfl hB (show 1 < 1000000 by decide) fun ps11 H16 C2 => ?_
  refine q_ask1 (it := 7) C2 rfl hB (show 2 < 1000000 by decide) fun ps12 H17 C3 => ?_
  have S17 : Sd (eNR P bx ps G H) (fNR P bx v n as (.d dn) (.d db) (.d dO) qNR ps12) G3 H17 _ := C3.S
  have R17 := refs (C := C) S17 bd
  have one : Pl (.int 1) := ⟨(Sm.int (by decide)).shw (by decide) (by decide), sok_shown _ rfl⟩
  refine q_askN C3 (by decide) (by rw [hl5 S17]; decide) (mem3 R17.r9 R17.r10 R17.r11) one.sh one.so (fun σ4 H4 Q hs ex k => tx_one k) fun H18 S18 => ?_
  have S18 : Sd (eNR P bx ps G H) (fNR P bx v n as (.d dn) (.d db) (.d dO) qNR ps12) G3 H18 _ := S18
  have R18 := refs (C := C) S18 bd
  obtain ⟨wo, s4, g4⟩ := S18.cells 4 _ rfl
  exact s_askR (it := 7) S18 rfl hB R18.r12 c3.sh c3.so (fun H4 Q ex k => tx_ok s4 (g4.up ex) c3.sh k) fun ps13 H19 S19 => hq _ _ _ (exn_of S19 rfl rfl)
end
end DL
/-! printed by gen_law.py: the law's reading, its derivation -/
namespace DL
open PySem PySem.Spec PyProof.Rows L2
section
variable {w : World} {K : PySem.W.Frag} {mg : Str → Option Value} {base : Heap}
abbrev s_law : Stmt := topS 63
theorem sc_law : FnScope ["_law_script", "_law_k", "_law_box_here", "_law_net_here", "_law_handed", "_law_start_here", "_law_goal", "_law_lots_here", "_law_best_here", "_law_told", "_law_turn", "_law_arc", "_zz"] ["_law_script"] (defScope s_law) := ⟨rfl, rfl, rfl, by decide +kernel, rfl, by decide +kernel, by decide +kernel⟩
def t_law (K : PySem.W.Frag) (C P : Addr) (E : XK) : TS :=
    (tSeq (tIfS (tNot (tB (tCall (sp_law_many_right C) [] E0 (tCons (tCall (sp_law_box K C) [] E0 (tCons (tVar 0) (tCons (tC (.int 4)) tNil))) tNil)))) (tRet (tC (.bl false))) tNext)
    (tSeq (tFor (iRng1 (tCons (tC (.int 4)) tNil)) (gName 1) (tSeq (tAsg (tCall (sp_law_box K C) [] E0 (tCons (tVar 0) (tCons (tVar 1) tNil))) (gName 2))
    (tSeq (tAsg (tCall (sp_law_net C) [] E0 (tCons (tVar 2) (tCons (tC (.int 5)) (tCons (tC (.int 9)) tNil)))) (gName 3))
    (tSeq (tAsg (tLst (tCons (tOp (rIx K) (tVar 3) (tC (.int 0))) (tCons (tLc (iSeq K (tOp (rIx K) (tVar 3) (tC (.int 1)))) (gName 11) tYes (tCB (rListOf K) (tCons (tVar 11) tNil)) [11]) tNil))) (gName 4))
    (tSeq (tPar 5 6 (tCons (tC (.int 0)) (tCons (tOp (rI0 fun i j => .int (i - j)) (tOp (rIx K) (tVar 3) (tC (.int 0))) (tC (.int 1))) tNil)))
    (tSeq (tIfS (tTest (tOp (rEqD K) (tCall (sp_law_take C) [] E0 (tCons (tVar 2) (tCons (tC (.int 4)) tNil))) (tC (.int 0)))) (tAsg (tC (.int 1)) (gName 6)) tNext)
    (tSeq (tAsg (tCall (sp_law_lots C) [] E0 (tCons (tVar 3) (tCons (tVar 5) (tCons (tLst (tCons (tVar 6) tNil)) tNil)))) (gName 7))
    (tSeq (tAsg (tCall (sp_law_best C) [] E0 (tCons (tVar 7) tNil)) (gName 8))
    (tSeq (tFor (iSeq K (tLst (tCons (tCall (sp_greatest C) [] E0 (tCons (tVar 3) (tCons (tVar 5) (tCons (tVar 6) tNil)))) (tCons (tCallR (sp_greatest C) E0 (tCons (tVar 6) (tCons (tVar 5) (tCons (tVar 4) tNil)))) tNil)))) (gName 9) (tIfS (tTest (tOp (fun x y H Q => y = .non ∧ Q (.bl (decide (x = .non))) H) (tVar 8) (tC .non))) (tIfS (tTest (tOp (fun x y H Q => y = .non ∧ Q (.bl (!decide (x = .non))) H) (tVar 9) (tC .non))) (tRet (tC (.bl false))) tNext) (tIfS (tNot (tB (tCall (sp_law_is_best C) [] E0 (tCons (tVar 3) (tCons (tVar 5) (tCons (tVar 6) (tCons (tVar 8) (tCons (tVar 9) tNil)))))))) (tRet (tC (.bl false))) tNext)))
    (tSeq (tIfS (tNot (tB (tCall (sp_law_cuts_right C) [] E0 (tCons (tVar 3) (tCons (tVar 4) (tCons (tVar 5) (tCons (tVar 6) (tCons (tVar 7) (tCons (tVar 8) tNil))))))))) (tRet (tC (.bl false))) tNext)
    (tSeq (tFor (iRng1 (tCons (tC (.int 3)) tNil)) (gName 10) (tIfS (tNot (tB (tCall (sp_law_led_right C) [] E0 (tCons (tVar 2) (tCons (tVar 3) (tCons (tVar 4) (tCons (tVar 5) (tCons (tVar 6) (tCons (tVar 8) tNil))))))))) (tRet (tC (.bl false))) tNext))
    (tIfS (tNot (tB (tCall (sp_law_none_right P C) [] E0 (tCons (tVar 2) (tCons (tVar 3) tNil))))) (tRet (tC (.bl false))) tNext))))))))))))
    (tRet (tC (.bl true)))))
theorem d_law {P : Addr} (T : Txt K mg) (G_greatest : FnOk PG w K mg base (L2.CX PG w) 9 T.f_greatest.f T.f_greatest.fd ["net", "start", "goal"] (sp_greatest T.C)) (G_law_box : FnOk PG w K mg base (L2.CX PG w) 1 T.f_law_box.f T.f_law_box.fd ["_law_script", "_law_k"] (sp_law_box K T.C)) (G_law_take : FnOk PG w K mg base (L2.CX PG w) 1 T.f_law_take.f T.f_law_take.fd ["_law_box_here", "_law_many"] (sp_law_take T.C)) (G_law_net : FnOk PG w K mg base (L2.CX PG w) 3 T.f_law_net.f T.f_law_net.fd ["_law_box_here", "_law_nodes", "_law_most"] (sp_law_net T.C)) (G_law_lots : FnOk PG w K mg base (L2.CX PG w) 2 T.f_law_lots.f T.f_law_lots.fd ["_law_net_here", "_law_start_here", "_law_ends"] (sp_law_lots T.C)) (G_law_best : FnOk PG w K mg base (L2.CX PG w) 1 T.f_law_best.f T.f_law_best.fd ["_law_lots_here"] (sp_law_best T.C)) (G_law_cuts_right : FnG PG w K mg base (L2.CX PG w) 11 T.f_law_cuts_right.f T.f_law_cuts_right.fd ["_law_net_here", "_law_handed", "_law_start_here", "_law_goal", "_law_lots_here", "_law_best_here"] (sp_law_cuts_right T.C)) (G_law_is_best : FnOk PG w K mg base (L2.CX PG w) 7 T.f_law_is_best.f T.f_law_is_best.fd ["_law_net_here", "_law_start_here", "_law_goal", "_law_best_here", "_law_told"] (sp_law_is_best T.C)) (G_law_led_right : FnOk PG w K mg base (L2.CX PG w) 9 T.f_law_led_right.f T.f_law_led_right.fd ["_law_box_here", "_law_net_here", "_law_handed", "_law_start_here", "_law_goal", "_law_best_here"] (sp_law_led_right T.C)) (G_law_none_right : FnG PG w K mg base (L2.CX PG w) 13 T.f_law_none_right.f T.f_law_none_right.fd ["_law_box_here", "_law_net_here"] (sp_law_none_right P T.C)) (G_law_many_right : FnG PG w K mg base (L2.CX PG w) 11 T.f_law_many_right.f T.f_law_many_right.fd ["_law_box_here"] (sp_law_many_right T.C)) (f : Addr) (cdv : Value) (A : Around) (outer : List Env) (s : Shared) (H : Hp) (E : XK) (hG : A.guards = some []) (hr : Room 13 (A.deeper (envOfC "law" (defScope s_law) s.heap.objs.size f cdv))) :
    PSs (cxOf (L2.CX PG w) PG w K mg base ["_law_script", "_law_k", "_law_box_here", "_law_net_here", "_law_handed", "_law_start_here", "_law_goal", "_law_lots_here", "_law_best_here", "_law_told", "_law_turn", "_law_arc", "_zz"] "law" (defScope s_law) f cdv A outer s H E).nox (defBody s_law) (t_law K T.C P E) :=
    (pss_cons (ps_if (pt_not (pt_val (pe_callG G_law_many_right hG (hr.mono (by decide)) rfl T.f_law_many_right.g T.f_law_many_right.F.kp T.f_law_many_right.b passL (pa_cons (pe_call G_law_box (hr.mono (by decide)) rfl T.f_law_box.g T.f_law_box.F.kp T.f_law_box.b .nil passL (pa_cons (pv 0) (pa_cons pe_int pa_nil))) pa_nil)))) (pss_one (ps_ret pe_bl)) pss_nil)
      (pss_cons (ps_for PassesOwn.never rfl (pi_range1 rfl T.mg_range (pa_cons pe_int pa_nil)) (pg_name (i := 1) sc_law.nd rfl (Or.inl rfl)) (pss_cons (ps_set (i := 2) sc_law.nd rfl (Or.inl rfl) (pe_call G_law_box (hr.mono (by decide)) rfl T.f_law_box.g T.f_law_box.F.kp T.f_law_box.b .nil passL (pa_cons (pv 0) (pa_cons (pv 1) pa_nil))))
      (pss_cons (ps_set (i := 3) sc_law.nd rfl (Or.inl rfl) (pe_call G_law_net (hr.mono (by decide)) rfl T.f_law_net.g T.f_law_net.F.kp T.f_law_net.b .nil passL (pa_cons (pv 2) (pa_cons pe_int (pa_cons pe_int pa_nil)))))
      (pss_cons (ps_set (i := 4) sc_law.nd rfl (Or.inl rfl) (pe_lst (pa_cons (pe_ix ix_seq (pv 3) pe_int (fun _ _ => rfl)) (pa_cons (pe_lc (own := [("_law_arc", 11)]) (g := (gName 11)) (tt := tYes) rfl sc_law.nd (pi_seq (pe_ix ix_seq (pv 3) pe_int (fun _ _ => rfl))) (blkOk_by (N := ["_law_script", "_law_k", "_law_box_here", "_law_net_here", "_law_handed", "_law_start_here", "_law_goal", "_law_lots_here", "_law_best_here", "_law_told", "_law_turn", "_law_arc", "_zz"]) (sc := defScope s_law) (by decide +kernel)) (fun _ _ _ _ _ => (pg_name (i := 11) sc_law.nd rfl (by first | exact Or.inl rfl | exact Or.inr rfl))) (fun _ _ _ _ _ => pts_nil) (fun _ _ _ _ _ => (pe_callTy call_list_of (by rfl) T.mg_list bt_list (pa_cons (pv 11) pa_nil)))) pa_nil))))
      (pss_cons (ps_par (i := 5) (j := 6) rfl sc_law.nd rfl rfl (by decide) rfl rfl (pa_cons pe_int (pa_cons (pe_op op_sub (pe_ix ix_seq (pv 3) pe_int (fun _ _ => rfl)) pe_int) pa_nil)) (by rfl))
      (pss_cons (ps_if (pt_cmpR (op_eqD hr.units) (pe_call G_law_take (hr.mono (by decide)) rfl T.f_law_take.g T.f_law_take.F.kp T.f_law_take.b .nil passL (pa_cons (pv 2) (pa_cons pe_int pa_nil))) pe_int (nomark _)) (pss_one (ps_set (i := 6) sc_law.nd rfl (Or.inl rfl) pe_int)) pss_nil)
      (pss_cons (ps_set (i := 7) sc_law.nd rfl (Or.inl rfl) (pe_call G_law_lots (hr.mono (by decide)) rfl T.f_law_lots.g T.f_law_lots.F.kp T.f_law_lots.b .nil passL (pa_cons (pv 3) (pa_cons (pv 5) (pa_cons (pe_lst (pa_cons (pv 6) pa_nil)) pa_nil)))))
      (pss_cons (ps_set (i := 8) sc_law.nd rfl (Or.inl rfl) (pe_call G_law_best (hr.mono (by decide)) rfl T.f_law_best.g T.f_law_best.F.kp T.f_law_best.b .nil passL (pa_cons (pv 7) pa_nil)))
      (pss_cons (ps_for PassesOwn.never rfl (pi_seq (pe_lst (pa_cons (pe_call G_greatest (hr.mono (by decide)) rfl T.f_greatest.g T.f_greatest.F.kp T.f_greatest.b .nil passL (pa_cons (pv 3) (pa_cons (pv 5) (pa_cons (pv 6) pa_nil)))) (pa_cons (pe_callR G_greatest (hr.mono (by decide)) rfl T.f_greatest.g T.f_greatest.F.kp T.kb_greatest passL (pk_cons (pv 6) (pk_cons (pv 5) (pk_cons (pv 4) pk_nil)))) pa_nil)))) (pg_name (i := 9) sc_law.nd rfl (Or.inl rfl)) (pss_one (ps_if (pt_cmpR op_isN (pv 8) pe_non (nomark _)) (pss_one (ps_if (pt_cmpR op_notN (pv 9) pe_non (nomark _)) (pss_one (ps_ret pe_bl)) pss_nil)) (pss_one (ps_if (pt_not (pt_val (pe_call G_law_is_best (hr.mono (by decide)) rfl T.f_law_is_best.g T.f_law_is_best.F.kp T.f_law_is_best.b .nil passL (pa_cons (pv 3) (pa_cons (pv 5) (pa_cons (pv 6) (pa_cons (pv 8) (pa_cons (pv 9) pa_nil)))))))) (pss_one (ps_ret pe_bl)) pss_nil)))))
      (pss_cons (ps_if (pt_not (pt_val (pe_callG G_law_cuts_right hG (hr.mono (by decide)) rfl T.f_law_cuts_right.g T.f_law_cuts_right.F.kp T.f_law_cuts_right.b passL (pa_cons (pv 3) (pa_cons (pv 4) (pa_cons (pv 5) (pa_cons (pv 6) (pa_cons (pv 7) (pa_cons (pv 8) pa_nil))))))))) (pss_one (ps_ret pe_bl)) pss_nil)
      (pss_cons (ps_for PassesOwn.never rfl (pi_range1 rfl T.mg_range (pa_cons pe_int pa_nil)) (pg_name (i := 10) sc_law.nd rfl (Or.inl rfl)) (pss_one (ps_if (pt_not (pt_val (pe_call G_law_led_right (hr.mono (by decide)) rfl T.f_law_led_right.g T.f_law_led_right.F.kp T.f_law_led_right.b .nil passL (pa_cons (pv 2) (pa_cons (pv 3) (pa_cons (pv 4) (pa_cons (pv 5) (pa_cons (pv 6) (pa_cons (pv 8) pa_nil))))))))) (pss_one (ps_ret pe_bl)) pss_nil)))
      (pss_one (ps_if (pt_not (pt_val (pe_callG G_law_none_right hG (hr.mono (by decide)) rfl T.f_law_none_right.g T.f_law_none_right.F.kp T.f_law_none_right.b passL (pa_cons (pv 2) (pa_cons (pv 3) pa_nil))))) (pss_one (ps_ret pe_bl)) pss_nil)))))))))))))
      (pss_one (ps_ret pe_bl))))
end
end DL
/-! the law's own steps: boxes out of the script, the net handed as lists, the refusals -/
namespace DL
open PySem PySem.Spec PyProof.Rows L2
/-- the net as lists -/
def arcL (a : FM.Arc) : PyData := .list [iD a.tl, iD a.hd, optD a.mo]
def handD (n : Nat) (as : List FM.Arc) : PyData := .list [iD n, .list (as.map arcL)]
theorem hand_ok {n : Nat} {as : List FM.Arc} (h : NetOk n as) : HdOk n as (handD n as) := by
  refine ⟨fun a b xs e1 e2 => ?_, ?_⟩
  · have e1 : [iD n, .list (as.map arcL)] = [a, b] := Option.some.inj e1
    cases e1
    have e2 : as.map arcL = xs := Option.some.inj e2
    rw [← e2, List.length_map]; exact h.sz
  · have q := netOf_netD h
    have m1 : (as.map arcL).all (isArc n) = (as.map arcD).all (isArc n) := by rw [List.all_map, List.all_map]; rfl
    have m2 : (as.map arcL).map arcOf = (as.map arcD).map arcOf := by rw [List.map_map, List.map_map]; rfl
    show (if isBelow (iD n) 2001 && (!decide ((n : Int) = 0) && (as.map arcL).all (isArc n)) then some ((n : Int).toNat, (as.map arcL).map arcOf) else none) = _
    rw [m1, m2]
    exact q
theorem sql_up {K : PySem.W.Frag} {H H' : Hp} {a : Addr} {xs : List V} (h : SqL K H a xs) (k : ∀ o, H a = some o → H' a = some o) : SqL K H' a xs := by
  obtain (h | ⟨o, h⟩) | h := h
  · exact .inl (.inl (k _ h))
  · exact .inl (.inr ⟨o, k _ h⟩)
  · exact .inr h
/-- the script stands where the law began -/
structure Scr (K : PySem.W.Frag) (e : Ent) (P a : Addr) (ns : List Int) : Prop where
  b : ∀ x, e.B x ↔ x = P
  ne : a ≠ P
  sq : SqL K e.H a (ns.map V.int)
section
variable {K : PySem.W.Frag} {e e1 : Ent} {δ : Fm} {G H G' H' : Hp} {σ : L2.St} {P a bx C : Addr} {ns : List Int} {ps ps' : Array Value} {t1 t2 : TS} {D : L2.Ends} {n i it : Nat} {as : List FM.Arc}
theorem Scr.at (c : Scr K e P a ns) (S : Sd e δ G H σ) : SqL K H a (ns.map V.int) := sql_up c.sq fun o h => S.old a o h fun z => c.ne ((c.b a).mp z)
theorem s_box (c : Scr K e P a ns) (sb : Sub e1 e) (S : Sd e1 δ G H σ) (h0 : δ[0]? = some (.r (.ref a))) {j k : Nat} (hj : (δ[i]?).bind cellD = some (iD k)) (hk : k ≤ 1000)
    (f : ∀ p G1 H1, Sd e1 (δ.set j (.b p)) G1 H1 (σ.set j (some (.ref p))) → t2 D (σ.set j (some (.ref p))) H1) : tSeq (tAsg (tCall (sp_law_box K C) [] E0 (tCons (tVar 0) (tCons (tVar i) tNil))) (gName j)) t2 D σ H := by
  refine ⟨.ref a, S.cells 0 _ h0, ed_var hj σ G H _ S fun d v G1 H1 r g dv => ?_⟩
  subst r
  cases dv
  refine ⟨a, ns, k, rfl, c.at (sb.back g.s), hk, fun p H2 x y ex hn hp new => f p G1 H2 ?_⟩
  have S1 := g.s
  have S2 : Sd e1 δ G1 H2 σ := (S1.go ⟨Ex.rfl', ex, S1.sub.tr ex, fun _ z => .inl z⟩).s
  exact S2.setB ⟨hp, S1.eh hn, S1.gn hn, S1.no hn⟩
theorem ed_manyL (c : Scr K e P a ns) (h0 : δ[0]? = some (.r (.ref a))) : ED e (tCall (sp_law_many_right C) [] E0 (tCons (tCall (sp_law_box K C) [] E0 (tCons (tVar 0) (tCons (tC (.int 4)) tNil))) tNil)) δ (.bool true) := fun σ G H Q S f => by
  refine ⟨.ref a, S.cells 0 _ h0, a, ns, 4, rfl, c.at S, by decide, fun p H2 x y ex hn hp new => ?_⟩
  have S2 := S.go (G' := G) (H' := H2) ⟨Ex.rfl', ex, S.sub.tr ex, fun _ z => .inl z⟩
  refine ⟨G, (), p, [], x, y, rfl, S2.s.sub, S.gn hn, hp, .nil, trivial, fun v d G' H' rd xb dg => ?_⟩
  refine f d v G' H' rd (S.go ⟨xb.g, fun b o hb => xb.h b o (fun z => by rw [z, hn] at hb; cases hb) (ex b o hb), xb.s, fun b hb => ?_⟩) dg
  rcases xb.n b hb with z | z
  · exact .inl z
  · right
    cases q : H b with
    | none => rfl
    | some o => rw [ex b o q] at z; cases z
/-- behind a call that made the table grow -/
theorem Sd.goN (S : Sd e δ G H σ) (hi : δ[i]? = some (.b bx)) (ht : δ[it]? = some (.t P qNR ps)) (hB : ∀ x, e.B x ↔ x = P) (x : Exn bx P ps G H G' H' ps') : Sd e (δ.set it (.t P qNR ps')) G' H' σ := by
  obtain ⟨b1, b2, b3, b4⟩ := S.box hi
  have hl : it < δ.length := (List.getElem?_eq_some_iff.mp ht).1
  have at_ : ∀ {j : Nat} {d : Cell}, (δ.set it (.t P qNR ps'))[j]? = some d → (j = it ∧ d = .t P qNR ps') ∨ (j ≠ it ∧ δ[j]? = some d) := fun {j d} h => by
    by_cases z : j = it
    · subst z; rw [List.getElem?_set_self hl] at h; exact .inl ⟨rfl, (Option.some.inj h).symm⟩
    · rw [List.getElem?_set_ne (Ne.symm z)] at h; exact .inr ⟨z, h⟩
  have keep : ∀ {j : Nat} {d : Cell} {y : Addr}, j ≠ it → δ[j]? = some d → Own σ[j]? y d → y ≠ bx → ∀ u, H y = some u → H' y = some u := fun {j d y} z hd w nb u hu => x.h y u nb (fun w' => z (S.apart j it d _ y hd ht w w')) hu
  refine ⟨x.s, S.grow.tr x.g, fun y o hy nb => ?_, fun y hy => ?_, fun y hy => ?_, by simp [S.len], fun j d hd => ?_, fun j d y hd w => ?_, fun j k d d' y hd hd' w w' => ?_⟩
  · refine x.h y o (fun z => ?_) (fun w => ?_) (S.old y o hy nb)
    · subst z
      rcases b4 with z | z
      · exact nb z
      · rw [z] at hy; cases hy
    · rcases (S.own it _ y ht w).1 with z | z
      · exact nb z
      · rw [z] at hy; cases hy
  · rcases x.n y hy with z | z
    · exact S.new y z
    · exact .inr (S.eh z)
  · rw [(hB y).mp hy, x.t]; exact Option.some_ne_none _
  · rcases at_ hd with ⟨z, ed⟩ | ⟨z, hd⟩
    · subst ed; exact ⟨x.t, x.k.1, x.k.2⟩
    · by_cases zi : j = i
      · subst zi
        rw [hi] at hd; cases hd
        exact ⟨b1, x.b⟩
      · exact (S.cells j d hd).up x.g fun y w u hu => keep z hd w (fun q => zi (S.apart j i d _ y hd hi w (by rw [q]; exact b1))) u hu
  · rcases at_ hd with ⟨z, ed⟩ | ⟨z, hd⟩
    · subst ed z
      obtain ⟨o1, o2, o3⟩ := x.o y w
      refine ⟨?_, o1⟩
      rcases o3 with q | q
      · exact (S.own j _ y ht q).1
      · exact .inr (S.eh q)
    · obtain ⟨w1, w2⟩ := S.own j d y hd w
      refine ⟨w1, ?_⟩
      cases q : G' y with
      | none => rfl
      | some o =>
        exfalso
        rcases x.n y (by rw [q]; exact Option.some_ne_none _) with q' | q'
        · exact q' w2
        · obtain ⟨u, hu⟩ := (S.cells j d hd).there w
          rw [hu] at q'; cases q'
  · have one : ∀ {j : Nat} {d : Cell}, j ≠ it → δ[j]? = some d → Own σ[j]? y d → ¬ TOwn P ps' y := fun {j d} z hd w w' => by
      obtain ⟨_, _, o3⟩ := x.o y w'
      rcases o3 with q | q
      · exact z (S.apart j it d _ y hd ht w q)
      · exact S.no q j d hd w
    rcases at_ hd with ⟨z, ed⟩ | ⟨z, hd⟩ <;> rcases at_ hd' with ⟨z', ed'⟩ | ⟨z', hd'⟩
    · rw [z, z']
    · subst ed; exact absurd w (one z' hd' w')
    · subst ed'; exact absurd w' (one z hd w)
    · exact S.apart j k d d' y hd hd' w w'
theorem s_none (S : Sd e δ G H σ) (h2 : δ[2]? = some (.b bx)) (h3 : (δ[3]?).bind cellD = some (netD n as)) (ht : δ[it]? = some (.t P qNR ps)) (h2t : 2 ≠ it) (hB : ∀ x, e.B x ↔ x = P) (ok : NetOk n as) (n2 : 2 ≤ n)
    (f : ∀ G' H' ps', Sd e (δ.set it (.t P qNR ps')) G' H' σ → D.nx σ H') : tIfS (tNot (tB (tCall (sp_law_none_right P C) [] E0 (tCons (tVar 2) (tCons (tVar 3) tNil))))) t1 tNext D σ H := by
  obtain ⟨b1, _, _, _⟩ := S.box h2
  refine ⟨.ref bx, b1, ed_var h3 σ G H _ S fun d v G1 H1 r g dv => ?_⟩
  subst r
  obtain ⟨_, c2, c3, _⟩ := g.s.box h2
  obtain ⟨u1, u2, u3⟩ := g.s.table ht
  refine ⟨G1, n, as, bx, v, ps, rfl, ⟨g.s.sub, c3, c2, dv, ok, n2, u1, u2, fun y w => ⟨(g.s.own it _ y ht w).2, fun z => h2t (g.s.apart 2 it _ _ y h2 ht (by rw [z]; exact b1) w)⟩⟩, fun G' H' ps' x => ⟨true, rfl, f G' H' ps' (g.s.goN h2 ht hB x)⟩⟩
end
end DL
/-! the law's turn, behind the goal -/
namespace DL
open PySem PySem.Spec PyProof.Rows L2
abbrev NLw : List Str := ["_law_script", "_law_k", "_law_box_here", "_law_net_here", "_law_handed", "_law_start_here", "_law_goal", "_law_lots_here", "_law_best_here", "_law_told", "_law_turn", "_law_arc", "_zz"]
abbrev fLw (P a : Addr) (c1 c2 c3 c4 c5 c6 c7 c8 c9 c10 : Cell) (ps : Array Value) : Fm := [.r (.ref a), c1, c2, c3, c4, c5, c6, c7, c8, c9, c10, .no, .t P qNR ps]
def t_law_tail (K : PySem.W.Frag) (C P : Addr) : TS :=
    (tSeq (tAsg (tCall (sp_law_lots C) [] E0 (tCons (tVar 3) (tCons (tVar 5) (tCons (tLst (tCons (tVar 6) tNil)) tNil)))) (gName 7))
    (tSeq (tAsg (tCall (sp_law_best C) [] E0 (tCons (tVar 7) tNil)) (gName 8))
    (tSeq (tFor (iSeq K (tLst (tCons (tCall (sp_greatest C) [] E0 (tCons (tVar 3) (tCons (tVar 5) (tCons (tVar 6) tNil)))) (tCons (tCallR (sp_greatest C) E0 (tCons (tVar 6) (tCons (tVar 5) (tCons (tVar 4) tNil)))) tNil)))) (gName 9) (tIfS (tTest (tOp (fun x y H Q => y = .non ∧ Q (.bl (decide (x = .non))) H) (tVar 8) (tC .non))) (tIfS (tTest (tOp (fun x y H Q => y = .non ∧ Q (.bl (!decide (x = .non))) H) (tVar 9) (tC .non))) (tRet (tC (.bl false))) tNext) (tIfS (tNot (tB (tCall (sp_law_is_best C) [] E0 (tCons (tVar 3) (tCons (tVar 5) (tCons (tVar 6) (tCons (tVar 8) (tCons (tVar 9) tNil)))))))) (tRet (tC (.bl false))) tNext)))
    (tSeq (tIfS (tNot (tB (tCall (sp_law_cuts_right C) [] E0 (tCons (tVar 3) (tCons (tVar 4) (tCons (tVar 5) (tCons (tVar 6) (tCons (tVar 7) (tCons (tVar 8) tNil))))))))) (tRet (tC (.bl false))) tNext)
    (tSeq (tFor (iRng1 (tCons (tC (.int 3)) tNil)) (gName 10) (tIfS (tNot (tB (tCall (sp_law_led_right C) [] E0 (tCons (tVar 2) (tCons (tVar 3) (tCons (tVar 4) (tCons (tVar 5) (tCons (tVar 6) (tCons (tVar 8) tNil))))))))) (tRet (tC (.bl false))) tNext))
    (tIfS (tNot (tB (tCall (sp_law_none_right P C) [] E0 (tCons (tVar 2) (tCons (tVar 3) tNil))))) (tRet (tC (.bl false))) tNext))))))
section
variable {K : PySem.W.Frag} {e e1 : Ent} {δ : Fm} {G H G' H' : Hp} {σ : L2.St} {P a bx C : Addr} {ns : List Int} {ps : Array Value} {D : L2.Ends} {n t : Nat} {as : List FM.Arc} {c1 c7 c8 c9 c10 : Cell}
theorem great_R {d r : PyData} {s : Nat} (hd : netOf d = some (n, as)) (hs : s < n) (ht : t < n) (h : ∃ n' as' a b, netOf d = some (n', as') ∧ ndOf n' (iD s) = some a ∧ ndOf n' (iD t) = some b ∧ LedR n' as' a b (FM.zeros as'.length) r) : LedR n as s t (FM.zeros as.length) r := by
  obtain ⟨n', as', a, b, k1, k2, k3, k5⟩ := h
  have q1 := k1.symm.trans hd
  cases q1
  have q2 := k2.symm.trans (nd_of hs)
  cases q2
  have q3 := k3.symm.trans (nd_of ht)
  cases q3
  exact k5
theorem law_tail (hB : ∀ x, e.B x ↔ x = P) (ok : NetOk n as) (n2 : 2 ≤ n) (n5 : n ≤ 5) (t1 : 1 ≤ t) (tn : t < n) (S : Sd e (fLw P a c1 (.b bx) (.d (netD n as)) (.d (handD n as)) (.d (iD 0)) (.d (iD t)) c7 c8 c9 c10 ps) G H σ)
    (f : ∀ c7 c8 c9 c10 ps' σ' G' H', Sd e (fLw P a c1 (.b bx) (.d (netD n as)) (.d (handD n as)) (.d (iD 0)) (.d (iD t)) c7 c8 c9 c10 ps') G' H' σ' → D.nx σ' H') : t_law_tail K C P D σ H := by
  have nt := netOf_netD ok
  obtain ⟨hz, hn⟩ := hand_ok ok
  have hs : 0 < n := by omega
  have hne : 0 ≠ t := by omega
  have osz := ok.sz
  let F (c7 c8 c9 c10 : Cell) : Fm := fLw P a c1 (.b bx) (.d (netD n as)) (.d (handD n as)) (.d (iD 0)) (.d (iD t)) c7 c8 c9 c10 ps
  have ll : (FM.law_lots n 0 [t] as).length ≤ 100000 := by
    unfold FM.law_lots
    rw [List.length_map]
    exact Nat.le_trans (lots_len 0 [t] n) (Nat.le_trans (Nat.pow_le_pow_right (by decide) n5) (by decide))
  refine q_asg S (ed_call ⟨n, as, 0, t⟩ (ea_c (ed_var rfl) (ea_c (ed_var rfl) (ea_c (el_ed (el_lst (ea_c (ed_var rfl) ea_nil) fun _ q => by rw [q]; exact (show 1 ≤ 1000000 by decide))) ea_nil))) ⟨by show n ≤ 10; omega, osz⟩ rfl fun d q => q) fun d w1 G1 H1 q _ _ S1 => ?_
  subst q
  have S1 : Sd e (F (.d (.list ((FM.law_lots n 0 [t] as).map lotD))) c8 c9 c10) G1 H1 _ := S1
  refine q_asg S1 (ed_call (FM.law_lots n 0 [t] as) (ea_c (ed_var rfl) ea_nil) ll rfl fun d q => q) fun d w2 G2 H2 ⟨o, hb, q⟩ _ _ S2 => ?_
  subst q
  have S2 : Sd e (F (.d (.list ((FM.law_lots n 0 [t] as).map lotD))) (.d (optD o)) c9 c10) G2 H2 _ := S2
  refine seq (s_for (Ri := fun items => ∃ r1 r2, items = [r1, r2] ∧ LedR n as 0 t (FM.zeros as.length) r1 ∧ LedR n as 0 t (FM.zeros as.length) r2) S2 (it_seqR (el_er (Rl := fun ds => ∃ r1 r2, ds = [r1, r2] ∧ LedR n as 0 t (FM.zeros as.length) r1 ∧ LedR n as 0 t (FM.zeros as.length) r2) (el_lst (ea_cons (Ra := fun d => LedR n as 0 t (FM.zeros as.length) d) (Rs := fun ds => ∃ r2, ds = [r2] ∧ LedR n as 0 t (FM.zeros as.length) r2) ?_ (ea_cons (Ra := fun d => LedR n as 0 t (FM.zeros as.length) d) ?_ ea_nil fun d ds q1 q2 => ⟨d, by rw [q2], q1⟩) fun d ds q1 ⟨r2, q2, q3⟩ => ⟨d, r2, by rw [q2], q1, q3⟩) fun ds ⟨_, _, q, _⟩ => by rw [q]; exact (show 2 ≤ 1000000 by decide)) fun xs q => ⟨xs, .l, q⟩)) fun items ⟨r1, r2, q, L1, L2'⟩ => ⟨fun j δ => ∃ c9 c10, δ = F (.d (.list ((FM.law_lots n 0 [t] as).map lotD))) (.d (optD o)) c9 c10, ⟨c9, c10, rfl⟩, ?_, ?_⟩)
  · exact ed_call ⟨netD n as, iD 0, iD t⟩ (ea_c (ed_var rfl) (ea_c (ed_var rfl) (ea_c (ed_var rfl) ea_nil))) ok.sz' (badPair_of nt (nd_of hs) (nd_of tn) (Ne.symm hne)) fun d q => great_R nt hs tn q
  · exact ed_callR (ds := [iD t, iD 0, handD n as]) ⟨handD n as, iD 0, iD t⟩ (ea_c (ed_var rfl) (ea_c (ed_var rfl) (ea_c (ed_var rfl) ea_nil))) rfl hz (badPair_of hn (nd_of hs) (nd_of tn) (Ne.symm hne)) fun d q => great_R hn hs tn q
  · intro e1 sb j d δ1 σ1 G3 H3 hd' hP S3
    obtain ⟨c9, c10, rfl⟩ := hP
    have hr : LedR n as 0 t (FM.zeros as.length) d := by
      rw [q] at hd'
      match j, hd' with
      | 0, hd' => cases hd'; exact L1
      | 1, hd' => cases hd'; exact L2'
      | _ + 2, hd' => cases hd'
    refine ⟨_, _, ga_name, fun σ2 G4 H4 S4 => ?_⟩
    have S4 : Sd e1 (F (.d (.list ((FM.law_lots n 0 [t] as).map lotD))) (.d (optD o)) (.d d) c10) G4 H4 σ2 := S4
    refine s_ifB (b := isNone (optD o)) S4 (eb_T (ed_isN (ed_var rfl))) (fun z G5 H5 _ S5 => ?_) fun z G5 H5 _ S5 => ?_
    · rcases led_best ok.wf hs tn hb hr with ⟨_, _, qd⟩ | ⟨l', _, qo, _, _⟩
      · subst qd
        exact s_ifB (b := false) S5 (eb_T (ed_notN (d := .none) (ed_var rfl))) (fun z => nomatch z) fun _ G6 H6 _ S6 => ⟨_, G6, ⟨_, _, rfl⟩, S6⟩
      · rw [qo] at z; cases z
    · rcases led_best ok.wf hs tn hb hr with ⟨qo, _, _⟩ | ⟨l', B, qo, kp, qd⟩
      · rw [qo] at z; cases z
      · subst qd
        exact s_ifB (b := false) S5 (eb_not (a := true) (eb_B (ed_call ⟨n, as, 0, t, l'⟩ (ea_c (ed_var rfl) (ea_c (ed_var rfl) (ea_c (ed_var rfl) (ea_c (ed_var (by show some (optD o) = _; rw [qo]; rfl)) (ea_c (ed_var rfl) ea_nil))))) ⟨ok, B⟩ rfl fun d q => q))) (fun z => nomatch z) fun _ G6 H6 _ S6 => ⟨_, G6, ⟨_, _, rfl⟩, S6⟩
  · intro δn σn Gn Hn hP _ Sn
    obtain ⟨c9, c10, rfl⟩ := hP
    dsimp only
    refine q_if0 (b := false) Sn (eb_not (a := true) (eb_B (ed_call ⟨n, as, handD n as, 0, t, o⟩ (ea_c (ed_var rfl) (ea_c (ed_var rfl) (ea_c (ed_var rfl) (ea_c (ed_var rfl) (ea_c (ed_var rfl) (ea_c (ed_var rfl) ea_nil)))))) ⟨ok, by show n ≤ 10; omega, hand_ok ok, hs, tn, hne, hb⟩ rfl fun d q => q))) (fun z => nomatch z) fun _ G3 H3 _ S3 => ?_
    refine q_forD (items := natsD 3) S3 (it_range1 (ea_c ed_int ea_nil) (by decide)) (fun j δ => ∃ c10, δ = F (.d (.list ((FM.law_lots n 0 [t] as).map lotD))) (.d (optD o)) c9 c10) ⟨c10, rfl⟩ (fun e1 sb j d δ1 σ1 G4 H4 hd' hP S4 => ?_) fun δm σm Gm Hm hP _ Sm => ?_
    · obtain ⟨c10, rfl⟩ := hP
      obtain ⟨hj, rfl⟩ := natsD_at hd'
      refine ⟨_, _, ga_name, fun σ2 G5 H5 S5 => ?_⟩
      have S5 : Sd e1 (F (.d (.list ((FM.law_lots n 0 [t] as).map lotD))) (.d (optD o)) c9 (.d (iD j))) G5 H5 σ2 := S5
      exact s_ifB (b := false) S5 (eb_not (a := true) (eb_B (ed_callB (i := 2) rfl ⟨n, as, handD n as, 0, t, o⟩ (ea_c (ed_var rfl) (ea_c (ed_var rfl) (ea_c (ed_var rfl) (ea_c (ed_var rfl) (ea_c (ed_var rfl) ea_nil))))) ⟨ok, hand_ok ok, hs, tn, hne, hb⟩ fun d q => q))) (fun z => nomatch z) fun _ G6 H6 _ S6 => ⟨_, G6, ⟨_, rfl⟩, S6⟩
    · obtain ⟨c10, rfl⟩ := hP
      exact s_none (it := 12) Sm rfl rfl rfl (by decide) hB ok n2 fun G' H' ps' S' => f _ _ _ _ ps' _ G' H' S'
end
end DL
/-! the law's promise -/
namespace DL
open PySem PySem.Spec PyProof.Rows L2
def sp_law (K : PySem.W.Frag) (P : Addr) : Sp := fun vs H Q _ => ∃ (a : Addr) (ns : List Int), vs = [.ref a] ∧ SqL K H a (ns.map V.int) ∧ a ≠ P ∧ H P = some (.tbl #[]) ∧ ∀ H', Q (.bl true) H'
section
variable {K : PySem.W.Frag} {G H G' H' : Hp} {P C : Addr} {E E' : XK} {vs : List V} {Q : VK}
theorem law_begin {a : Addr} (hP : H P = some (.tbl #[])) : Sd ⟨fun _ => none, H, fun x => x = P⟩ (fLw P a .no .no .no .no .no .no .no .no .no .no #[]) (fun _ => none) H (L2.start NLw [.ref a]) := by
  have nc : ∀ {pos : Pos} {cv : Value}, codeAmong pos (#[] : Array Value).toList ≠ some cv := fun {pos cv} z => by simp [codeAmong] at z
  have own : ∀ {j : Nat} {c : Cell} {x : Addr}, (fLw P a .no .no .no .no .no .no .no .no .no .no #[])[j]? = some c → Own (L2.start NLw [.ref a])[j]? x c → j = 12 ∧ x = P := fun {j c x} hc w => by
    match j, hc with
    | 0, hc => cases hc; exact w.elim
    | 1, hc => cases hc; exact w.elim
    | 2, hc => cases hc; exact w.elim
    | 3, hc => cases hc; exact w.elim
    | 4, hc => cases hc; exact w.elim
    | 5, hc => cases hc; exact w.elim
    | 6, hc => cases hc; exact w.elim
    | 7, hc => cases hc; exact w.elim
    | 8, hc => cases hc; exact w.elim
    | 9, hc => cases hc; exact w.elim
    | 10, hc => cases hc; exact w.elim
    | 11, hc => cases hc; exact w.elim
    | 12, hc =>
      cases hc
      rcases (show x = P ∨ ∃ pos, codeAmong pos (#[] : Array Value).toList = some (.ref x) from w) with z | ⟨_, z⟩
      · exact ⟨rfl, z⟩
      · exact absurd z nc
    | j + 13, hc => cases hc
  refine ⟨fun _ _ z => (nomatch z), Ex.rfl', fun _ _ z _ => z, fun _ z => .inl z, fun x z => ?_, rfl, fun j c hc => ?_, fun j c x hc w => ?_, fun j k c d x hc hd w w' => ?_⟩
  · have z : x = P := z
    rw [z, hP]; exact Option.some_ne_none _
  · match j, hc with
    | 0, hc => cases hc; rfl
    | 1, hc => cases hc; trivial
    | 2, hc => cases hc; trivial
    | 3, hc => cases hc; trivial
    | 4, hc => cases hc; trivial
    | 5, hc => cases hc; trivial
    | 6, hc => cases hc; trivial
    | 7, hc => cases hc; trivial
    | 8, hc => cases hc; trivial
    | 9, hc => cases hc; trivial
    | 10, hc => cases hc; trivial
    | 11, hc => cases hc; trivial
    | 12, hc => cases hc; exact ⟨hP, trivial, fun pos cv z => absurd z nc⟩
    | j + 13, hc => cases hc
  · exact ⟨.inl (own hc w).2, rfl⟩
  · rw [(own hc w).1, (own hd w').1]
theorem pu_law (h : sp_law K P vs H Q E) : t_law K C P E' { nx := fun _ H' => Q .non H', rt := Q } (L2.start NLw vs) H := by
  obtain ⟨a, ns, rfl, sq, ne, hP, hq⟩ := h
  have S0 := law_begin (a := a) hP
  have c : Scr K ⟨fun _ => none, H, fun x => x = P⟩ P a ns := ⟨fun _ => Iff.rfl, ne, sq⟩
  refine q_if0 (b := false) S0 (eb_not (a := true) (eb_B (ed_manyL c rfl))) (fun z => nomatch z) fun _ G1 H1 _ S1 => ?_
  refine q_forD (items := natsD 4) S1 (it_range1 (ea_c ed_int ea_nil) (by decide)) (fun j δ => ∃ c1 c2 c3 c4 c5 c6 c7 c8 c9 c10 ps, δ = fLw P a c1 c2 c3 c4 c5 c6 c7 c8 c9 c10 ps) ⟨_, _, _, _, _, _, _, _, _, _, _, rfl⟩ (fun e1 sb k d δ1 σ1 G2 H2 hd hP2 S2 => ?_) fun δn σn Gn Hn _ _ Sn => hq Hn
  obtain ⟨c1, c2, c3, c4, c5, c6, c7, c8, c9, c10, ps, rfl⟩ := hP2
  obtain ⟨hk, rfl⟩ := natsD_at hd
  refine ⟨_, _, ga_name, fun σ2 G3 H3 S3 => ?_⟩
  have S3 : Sd e1 (fLw P a (.d (iD k)) c2 c3 c4 c5 c6 c7 c8 c9 c10 ps) G3 H3 σ2 := S3
  refine s_box c sb S3 rfl (i := 1) (j := 2) (k := k) rfl (by omega) fun bx G4 H4 S4 => ?_
  have S4 : Sd e1 (fLw P a (.d (iD k)) (.b bx) c3 c4 c5 c6 c7 c8 c9 c10 ps) G4 H4 _ := S4
  refine q_asg S4 (ed_callB (i := 2) rfl ((5 : Nat), (9 : Nat)) (ea_c ed_int (ea_c ed_int ea_nil)) ⟨by decide, by decide, by decide⟩ fun d q => q) fun d w1 G5 H5 ⟨n, as, ed, n2, n5, wf, hl⟩ _ _ S5 => ?_
  subst ed
  have n5 : n ≤ 5 := n5
  have hl : as.length ≤ 9 := hl
  have ok : NetOk n as := ⟨by omega, by omega, wf, by omega⟩
  have S5 : Sd e1 (fLw P a (.d (iD k)) (.b bx) (.d (netD n as)) c4 c5 c6 c7 c8 c9 c10 ps) G5 H5 _ := S5
  refine q_set (d := handD n as) S5 (el_ed (el_lst (ea_c (ed_ix (n := 0) (d := iD n) (da := netD n as) (ed_var rfl) ed_int .t rfl) (ea_c (el_ed (el_map (xs := as) (enc := arcD) (f := arcL) (δ' := fun x => (fLw P a (.d (iD k)) (.b bx) (.d (netD n as)) c4 c5 c6 c7 c8 c9 c10 ps).set 11 (.d (arcD x))) (it_seq (d := arcsD as) (ed_ix (n := 1) (da := netD n as) (ed_var rfl) ed_int .t rfl) .t) (by simp) rfl (fun p _ => ga_name) (fun _ _ => rfl) (fun x _ => el_ed (el_listOf rfl (ed_var rfl) .t)) (by omega))) ea_nil)) fun _ q => by rw [q]; exact (show 2 ≤ 1000000 by decide))) fun w2 G6 H6 _ _ S6 => ?_
  have S6 : Sd e1 (fLw P a (.d (iD k)) (.b bx) (.d (netD n as)) (.d (handD n as)) c5 c6 c7 c8 c9 c10 ps) G6 H6 _ := S6
  refine q_par (Rs := fun ds => ds = [iD 0, iD (n - 1)]) S6 (ea_c ed_int (ea_c (ER.is (ed_sub (ed_ix (n := 0) (d := iD n) (da := netD n as) (ed_var rfl) ed_int .t rfl) ed_int) (by show PyData.int _ = PyData.int _; congr 1; show (n : Int) - 1 = ((n - 1 : Nat) : Int); omega)) ea_nil)) (fun ds q => by rw [q]; rfl) fun d1 d2 w3 w4 G7 H7 q _ S7 => ?_
  cases q
  have S7 : Sd e1 (fLw P a (.d (iD k)) (.b bx) (.d (netD n as)) (.d (handD n as)) (.d (iD 0)) (.d (iD (n - 1))) c7 c8 c9 c10 ps) G7 H7 _ := S7
  have hB : ∀ x, e1.B x ↔ x = P := fun x => by rw [sb.b]
  have tail : ∀ t σ G H, 1 ≤ t → t < n → Sd e1 (fLw P a (.d (iD k)) (.b bx) (.d (netD n as)) (.d (handD n as)) (.d (iD 0)) (.d (iD t)) c7 c8 c9 c10 ps) G H σ → t_law_tail K C P { nx := Nx e1 (fun δ => ∃ c1 c2 c3 c4 c5 c6 c7 c8 c9 c10 ps, δ = fLw P a c1 c2 c3 c4 c5 c6 c7 c8 c9 c10 ps), ct := Nx e1 (fun δ => ∃ c1 c2 c3 c4 c5 c6 c7 c8 c9 c10 ps, δ = fLw P a c1 c2 c3 c4 c5 c6 c7 c8 c9 c10 ps), bk := fun σ H => tRet (tC (.bl true)) { nx := fun _ H' => Q .non H', rt := Q } σ H, rt := Q } σ H := fun t σ G H t1 tn S =>
    law_tail hB ok n2 n5 t1 tn S fun c7 c8 c9 c10 ps' σ' G' H' S' => ⟨_, G', ⟨_, _, _, _, _, _, _, _, _, _, _, rfl⟩, S'⟩
  refine q_ifR (Rt := fun _ => True) S7 (et_T (er_op (ed_callB (i := 2) rfl (4 : Nat) (ea_c ed_int ea_nil) ⟨by decide, by decide⟩ fun d q => q) ed_int fun da db ⟨k, _, q1⟩ q2 => by
    subst q1 q2
    exact fun G H x y Q s hx hy kk => ov_eqD rfl rfl G H x y Q s hx hy fun d v q => kk d v ⟨_, q, trivial⟩)) (fun _ G8 H8 _ S8 => ?_) fun _ G8 H8 _ S8 => tail _ _ _ _ (by omega) (by omega) S8
  exact s_asg S8 ed_int fun d w5 G9 H9 q _ _ S9 => by
    subst q
    exact tail 1 _ _ _ (by omega) (by omega) S9
end
end DL
/-! the def of the lambdas and the law keep their promises -/
namespace DL
open PySem PySem.Spec PyProof.Rows L2
section
variable {w : World} {K : PySem.W.Frag} {mg : Str → Option Value} {base : Heap} {P c CO : Addr}
theorem ok_law_none_right (T : Txt K mg) (hc : HeC K mg T.C CO) (TB : LamX.TabB base mg c P) (hcd : T.f_law_none_right.fd.code = .ref c) : FnG PG w K mg base (L2.CX PG w) 13 T.f_law_none_right.f T.f_law_none_right.fd ["_law_box_here", "_law_net_here"] (sp_law_none_right P T.C) := by
  have len : ∀ vs H Q E, sp_law_none_right P T.C vs H Q E → vs.length = 2 := fun vs H Q E ⟨_, _, _, _, _, _, q, _⟩ => by rw [q]; rfl
  refine ⟨len, fun A outer s H args us vs Q E hG hr e0 hb r h => ?_⟩
  obtain ⟨oc, od, kV, doc, pm, an, cdv, ct, osl, hfd, lk, hcv⟩ := T.f_law_none_right.F.ex
  rw [hfd] at hb lk hcd
  have hcd : cdv = .ref c := hcd
  exact LamX.run_ofS lk hcv sc_law_none_right hr e0 hb r (len _ _ _ _ h) fun hr' => ⟨_, (d_law_none_right T hc (ok_led_on T) (ok_greatest T) (ok_cuts T) (ok_law_pick T) _ cdv A outer s H E hG TB hcd hr').nox, pu_law_none_right h s.heap.objs.size _ cdv⟩
theorem ok_law (T : Txt K mg) (hc : HeC K mg T.C CO) (TB : LamX.TabB base mg c P) (hcd : T.f_law_none_right.fd.code = .ref c) : FnG PG w K mg base (L2.CX PG w) 14 T.f_law.f T.f_law.fd ["_law_script"] (sp_law K P) :=
  Fun.okG T.f_law.F sc_law (fun vs H Q E ⟨_, _, q, _⟩ => by rw [q]; rfl) fun cdv A outer s H vs Q E hG hr h => ⟨_, (d_law T (ok_greatest T) (ok_law_box T) (ok_law_take T) (ok_law_net T) (ok_law_lots T) (ok_law_best T) (ok_law_cuts_right T) (ok_law_is_best T) (ok_law_led_right T) (ok_law_none_right T hc TB hcd) (ok_law_many_right T) T.f_law.f cdv A outer s H E hG hr).nox, pu_law h⟩
end
end DL
/-! the call of the law from without: one table grows, the script stands, nothing is being shown -/
namespace DL
open PySem PySem.Spec PyProof.Rows L2
/-- what is tracked at the law's entry: the table, and the script where the text does not hold it -/
def hIn (K : PySem.W.Frag) (P a : Addr) (so : Obj) (ns : List Int) : Hp := fun b => if b = P then some (.tbl #[]) else if b = a then (match K.lookup a with | none => some (.frz so (.lst (ns.map V.int))) | some _ => none) else none
section
variable {w : World} {K : PySem.W.Frag} {P a b : Addr} {so o : Obj} {ns : List Int} {u : HO} {h : Heap}
theorem hIn_P : hIn K P a so ns P = some (.tbl #[]) := if_pos rfl
theorem hIn_some (e : hIn K P a so ns b = some u) : (b = P ∧ u = .tbl #[]) ∨ (b = a ∧ K.lookup b = none ∧ u = .frz so (.lst (ns.map V.int))) := by
  unfold hIn at e
  by_cases h1 : b = P
  · rw [if_pos h1] at e; cases e; exact .inl ⟨h1, rfl⟩
  · rw [if_neg h1] at e
    by_cases h2 : b = a
    · rw [if_pos h2] at e
      cases q : K.lookup a with
      | none => rw [q] at e; cases e; exact .inr ⟨h2, by rw [h2]; exact q, rfl⟩
      | some _ => rw [q] at e; cases e
    · rw [if_neg h2] at e; cases e
theorem hIn_not (h1 : b ≠ P) (h2 : b ≠ a) : hIn K P a so ns b = none := by unfold hIn; rw [if_neg h1, if_neg h2]
theorem law_callG {mg mb : Str → Option Value} {k : Nat} {fa c : Addr} {fd : FuncData} {x : Str} {s₁ : Shared} {vs : List Value}
    (KX : K.In s₁.heap) (hns : s₁.heap.Ns mainGlobals mg) (hb : s₁.heap.Ns builtinsNs mb)
    (hbb : ∀ x : Str, x ≠ "__name__" → mb x = bootBuiltins x) (hlim : s₁.heap.NoLimit) (hg : s₁.gens = #[])
    (hP : s₁.heap.get? P = some { cls := .none, data := .fields #[] }) (nP : K.lookup P = none) (hc : PySem.W.CodeHd s₁.heap c P) (hbm : ∃ (bm : Addr) (ob : Obj), mg "__builtins__" = some (.ref bm) ∧ bm ≠ builtinsNs ∧ s₁.heap.get? bm = some ob ∧ ob.cls = .type "module" ∧ ob.dict = some builtinsNs ∧ ob.data = .plain)
    (ha : s₁.heap.get? a = some { cls := .type "list", data := .seq vs.toArray }) (hi : IntsAre vs ns) (hl : ns.length ≤ sizeLine)
    (hr : Room k callerA) (F : ∀ base : Heap, K.In base → base.Ns mainGlobals mg → LamX.TabB base mg c P → FnG PG w K mg base (L2.CX PG w) k fa fd [x] (sp_law K P)) (hbind : ∀ (s : Shared) (u : Value), BindsTo s fd ⟨[u], []⟩ [(x, u)]) :
    codeAny (model PG w) callerA (.call (.ref fa) ⟨[.ref a], []⟩) (fun r s' => r = .ok (.ret (.bool true)) ∧ OldK s₁.heap s'.heap ∧ s'.os = s₁.os ∧ AllBare s'.gens) s₁ := by
  generalize hso : ({ cls := .type "list", data := .seq vs.toArray } : Obj) = so at ha
  let H : Hp := hIn K P a so ns
  have rv := vals_ints hi
  have aP : a ≠ P := fun z => by
    rw [z, hP] at ha
    have := congrArg Obj.data (Option.some.inj ha)
    rw [← hso] at this
    cases this
  have lst : ObjOk PG w H s₁.heap a (.lst (ns.map V.int)) := ⟨by rw [List.length_map]; exact hl, vs, _, rv, by rw [ha, ← hso]⟩
  have ok : HOk PG w H s₁.heap := fun b u e => by
    rcases hIn_some e with ⟨z1, z2⟩ | ⟨z1, _, z2⟩
    · rw [z1, z2]; exact hP
    · rw [z1, z2]; exact ⟨ha, lst⟩
  have sq : SqL K H a (ns.map V.int) := by
    cases q : K.lookup a with
    | none => exact .inl (.inr ⟨so, by show hIn K P a so ns a = _; unfold hIn; rw [if_neg aP, if_pos rfl, q]⟩)
    | some o =>
      have e := KX a o q
      rw [ha] at e
      cases e
      exact .inr ⟨so, vs.toArray, _, q, by rw [← hso], by rw [← hso], by rw [← hso], by rw [List.size_toArray, hi.length]; exact hl, by simpa using rv⟩
  -- the ground: all but what is tracked
  have up : ∀ {b : Addr} {o : Obj}, s₁.heap.get? b = some o → H b = none → (hidT s₁.heap H).get? b = some o := fun e n => hidT_get e n
  have plain : ∀ {b : Addr} {o : Obj}, s₁.heap.get? b = some o → o.data ≠ so.data → o.data ≠ .fields #[] → H b = none := fun {b o} e n1 n2 => hIn_not (fun z => n2 (by rw [z, hP] at e; cases e; rfl)) fun z => n1 (by rw [z, ha] at e; cases e; rfl)
  have soD : so.data = .seq vs.toArray := by rw [← hso]
  have ns_ : ∀ {b : Addr} {m : Str → Option Value}, s₁.heap.Ns b m → (hidT s₁.heap H).Ns b m := fun ⟨o, es, ep, e, d, r⟩ => ⟨o, es, ep, up e (plain e (fun z => by rw [soD, d] at z; cases z) fun z => by rw [d] at z; cases z), d, r⟩
  have kin : K.In (hidT s₁.heap H) := fun b o e => up (KX b o e) (by
    cases q : H b with
    | none => rfl
    | some u =>
      rcases hIn_some q with ⟨z, _⟩ | ⟨_, z, _⟩
      · rw [z, nP] at e; cases e
      · rw [z] at e; cases e)
  have tb : LamX.TabB (hidT s₁.heap H) mg c P := by
    refine ⟨?_, ?_, fun z => ?_⟩
    · obtain ⟨o, us, file, tf, flags, tg, inF, text, tt, e1, r1, r2, r3, r4⟩ := hc
      exact ⟨o, us, file, tf, flags, tg, inF, text, tt, up e1 (plain e1 (fun z => by rw [r2, soD] at z; cases z) fun z => by rw [r2] at z; cases z; cases r3), r1, r2, r3, r4⟩
    · have ⟨bm, ob, b1, b2, b3, b4, b5, b6⟩ := hbm
      refine ⟨bm, ob, b1, b2, fun q => ?_, fun q => ?_, up b3 (plain b3 (fun z => by rw [b6, soD] at z; cases z) fun z => by rw [b6] at z; cases z), b4, b5, b6⟩
      · obtain ⟨o, es, ep, e, d, _⟩ := hns
        rw [q, e] at b3; cases b3
        rw [d] at b6; cases b6
      · rw [q, hP] at b3; cases b3; cases b6
    · obtain ⟨o, es, ep, e, d, _⟩ := hns
      rw [z, hP] at e; cases e; cases d
  have md : L2.Mod K mg (hidT s₁.heap H) := ⟨kin, ns_ hns, ⟨mb, ns_ hb, hbb⟩, let ⟨mc, h1, h2⟩ := hlim; ⟨mc, ns_ h1, h2⟩⟩
  have e0 : Env0 PG w K mg (hidT s₁.heap H) callerA [] s₁ H := ⟨rfl, md, fun b o e => of_hidT e, Nat.le_of_eq (hidT_size _ _), trivial, fun b z => (nomatch z), ok, .of_eq hg⟩
  have run := (F _ kin (ns_ hns) tb).run callerA [] s₁ H ⟨[.ref a], []⟩ [.ref a] [.ref a] (fun v _ => v = .bl true) (fun _ _ _ => False) rfl hr e0 (hbind s₁ (.ref a)) (.cons rfl .nil) ⟨a, ns, rfl, sq, aP, hIn_P, fun _ => rfl⟩
  refine codeAny_mono run fun r s' q => ?_
  cases r with
  | error e =>
    obtain ⟨_, _, _, _, _, _, _, _, _, _, _, _, z⟩ := q
    exact z.elim
  | ok fl =>
    cases fl with
    | next => exact False.elim q
    | brk => exact False.elim q
    | cont => exact False.elim q
    | ret y =>
      obtain ⟨v, H', os, bare, un, ok', r', q⟩ := q
      have q : v = .bl true := q
      subst q
      obtain rfl : y = Value.bool true := r'
      obtain ⟨more, hm⟩ := un.tbls P #[] hIn_P
      have tab : s'.heap.get? P = some { cls := .none, data := .fields (#[] ++ more) } := ok' P _ hm
      have stay : ∀ b o, b ≠ P → s₁.heap.get? b = some o → s'.heap.get? b = some o := fun b o nb e => by
        cases z : H b with
        | none => exact un.keep b o e z (fun y => (nomatch y)) fun y => (nomatch y)
        | some u =>
          rcases hIn_some z with ⟨y, _⟩ | ⟨y, _, eu⟩
          · exact absurd y nb
          · rw [eu] at z
            obtain ⟨e1, _⟩ := ok' b _ (un.frzs b _ _ z)
            rw [y, ha] at e
            cases e
            exact e1
      refine ⟨rfl, OldK.mk (fun b o e => ?_) (fun b o e => ?_), os, bare⟩
      · by_cases nb : b = P
        · rw [nb, hP] at e
          cases e
          rw [nb]
          exact .inr (.inl ⟨(hc.tab hP).isCodeTable, rfl, #[], more, rfl, tab⟩)
        · exact .inl (stay b o nb e)
      · by_cases nb : b = P
        · rw [nb]; exact ⟨_, tab⟩
        · exact ⟨o, stay b o nb e⟩
end
end DL
/-! printed by gen_fin.py: the text's facts out of what the head tells -/
namespace DL
open PySem PySem.Spec PyProof.Rows L2
section
variable {h : Heap} {K : PySem.W.Frag} {mg : Str → Option Value}
def mkT {x : Str} {st : Stmt} {ps : List Str} {f : Addr} {oc kV doc pm cdv ct : Value} {od an : Option Addr} {osl : Array (Option Value)} (X : K.In h) (G : h.Ns mainGlobals mg) (a : PySem.W.nsIn K mainGlobals x = some (some (.ref f)))
    (l : K.lookup f = some ⟨oc, od, .func (PySem.W.fnOf x x (defArgs st) (defBody st) (defScope st) .none kV doc pm an cdv ct), osl⟩) (c : PySem.W.codeIn K cdv x = true) (k : PySem.W.keepIn K (.ref f) = true)
    (b : ∀ (kV doc pm : Value) (an : Option Addr) (cdv ct : Value) (us : List Value), us.length = ps.length → bindArgs (PySem.W.fnOf x x (defArgs st) (defBody st) (defScope st) .none kV doc pm an cdv ct) ⟨us, []⟩ = pure (ps.zip us)) : FnT K mg x st ps :=
  ⟨f, _, fun_mk l c k, (fun_mk l c k).binds b, PySem.W.mg_of X G a⟩
theorem vals_rev : ∀ {xs : List V} {us : List Value}, Vals xs us → Vals xs.reverse us.reverse
  | _, _, .nil => .nil
  | _, _, .cons r t => by
    simp only [List.reverse_cons]
    exact (vals_rev t).append (.cons r .nil)
theorem kb_of {fd : FuncData} {ps ks : List Str} (h : ∀ (s : Shared) (ws : List Value), ws.length = ps.length → BindsTo s fd ⟨[], ks.zip ws⟩ (ps.zip ws.reverse)) (hp : 0 < ps.length := by decide) : KBinds K fd ps ks revK revK where
  to := fun s us ws _ hl => match us, hl with
    | [], hl => h s ws ((List.length_reverse (as := ws)).symm.trans hl)
    | _ :: _, hl => absurd hl (Nat.ne_of_lt hp)
  rel := fun r rz => match r with
    | .nil => vals_rev rz
    | .cons _ _ => .nil

theorem fin {w : World} {mb : Str → Option Value} {s₁ : Shared} {a fa : Addr} {vs : List Value} {ns : List Int} {f_is_integer f_is_number f_is_below f_is_sequence f_is_ascending f_is_lot f_is_arc f_check_net f_need_node f_need_ends f_need_pair f_are_borne f_need_load f_surplus f_no_flow f_fits f_flow_fits f_need_fit f_worth f_cut_worth f_left_of f_can_go f_side_of f_leads_of f_come_by f_traced f_walk f_reached f_reaching f_least_left f_gone f_led_by f_led_on f_greatest f_cuts f_law_box f_law_take f_law_pick f_law_heard f_law_net f_law_gone f_law_flow f_law_more f_law_is_load f_law_is_flow f_law_worth f_law_lots f_law_best f_law_cuts_right f_law_is_best f_law_led_right f_law_none_right f_law_near f_law_many_right f_law : Addr} {oc_is_integer kV_is_integer dc_is_integer pm_is_integer ct_is_integer cd_is_integer oc_is_number kV_is_number dc_is_number pm_is_number ct_is_number cd_is_number oc_is_below kV_is_below dc_is_below pm_is_below ct_is_below cd_is_below oc_is_sequence kV_is_sequence dc_is_sequence pm_is_sequence ct_is_sequence cd_is_sequence oc_is_ascending kV_is_ascending dc_is_ascending pm_is_ascending ct_is_ascending cd_is_ascending oc_is_lot kV_is_lot dc_is_lot pm_is_lot ct_is_lot cd_is_lot oc_is_arc kV_is_arc dc_is_arc pm_is_arc ct_is_arc cd_is_arc oc_check_net kV_check_net dc_check_net pm_check_net ct_check_net cd_check_net oc_need_node kV_need_node dc_need_node pm_need_node ct_need_node cd_need_node oc_need_ends kV_need_ends dc_need_ends pm_need_ends ct_need_ends cd_need_ends oc_need_pair kV_need_pair dc_need_pair pm_need_pair ct_need_pair cd_need_pair oc_are_borne kV_are_borne dc_are_borne pm_are_borne ct_are_borne cd_are_borne oc_need_load kV_need_load dc_need_load pm_need_load ct_need_load cd_need_load oc_surplus kV_surplus dc_surplus pm_surplus ct_surplus cd_surplus oc_no_flow kV_no_flow dc_no_flow pm_no_flow ct_no_flow cd_no_flow oc_fits kV_fits dc_fits pm_fits ct_fits cd_fits oc_flow_fits kV_flow_fits dc_flow_fits pm_flow_fits ct_flow_fits cd_flow_fits oc_need_fit kV_need_fit dc_need_fit pm_need_fit ct_need_fit cd_need_fit oc_worth kV_worth dc_worth pm_worth ct_worth cd_worth oc_cut_worth kV_cut_worth dc_cut_worth pm_cut_worth ct_cut_worth cd_cut_worth oc_left_of kV_left_of dc_left_of pm_left_of ct_left_of cd_left_of oc_can_go kV_can_go dc_can_go pm_can_go ct_can_go cd_can_go oc_side_of kV_side_of dc_side_of pm_side_of ct_side_of cd_side_of oc_leads_of kV_leads_of dc_leads_of pm_leads_of ct_leads_of cd_leads_of oc_come_by kV_come_by dc_come_by pm_come_by ct_come_by cd_come_by oc_traced kV_traced dc_traced pm_traced ct_traced cd_traced oc_walk kV_walk dc_walk pm_walk ct_walk cd_walk oc_reached kV_reached dc_reached pm_reached ct_reached cd_reached oc_reaching kV_reaching dc_reaching pm_reaching ct_reaching cd_reaching oc_least_left kV_least_left dc_least_left pm_least_left ct_least_left cd_least_left oc_gone kV_gone dc_gone pm_gone ct_gone cd_gone oc_led_by kV_led_by dc_led_by pm_led_by ct_led_by cd_led_by oc_led_on kV_led_on dc_led_on pm_led_on ct_led_on cd_led_on oc_greatest kV_greatest dc_greatest pm_greatest ct_greatest cd_greatest oc_cuts kV_cuts dc_cuts pm_cuts ct_cuts cd_cuts oc_law_box kV_law_box dc_law_box pm_law_box ct_law_box cd_law_box oc_law_take kV_law_take dc_law_take pm_law_take ct_law_take cd_law_take oc_law_pick kV_law_pick dc_law_pick pm_law_pick ct_law_pick cd_law_pick oc_law_heard kV_law_heard dc_law_heard pm_law_heard ct_law_heard cd_law_heard oc_law_net kV_law_net dc_law_net pm_law_net ct_law_net cd_law_net oc_law_gone kV_law_gone dc_law_gone pm_law_gone ct_law_gone cd_law_gone oc_law_flow kV_law_flow dc_law_flow pm_law_flow ct_law_flow cd_law_flow oc_law_more kV_law_more dc_law_more pm_law_more ct_law_more cd_law_more oc_law_is_load kV_law_is_load dc_law_is_load pm_law_is_load ct_law_is_load cd_law_is_load oc_law_is_flow kV_law_is_flow dc_law_is_flow pm_law_is_flow ct_law_is_flow cd_law_is_flow oc_law_worth kV_law_worth dc_law_worth pm_law_worth ct_law_worth cd_law_worth oc_law_lots kV_law_lots dc_law_lots pm_law_lots ct_law_lots cd_law_lots oc_law_best kV_law_best dc_law_best pm_law_best ct_law_best cd_law_best oc_law_cuts_right kV_law_cuts_right dc_law_cuts_right pm_law_cuts_right ct_law_cuts_right cd_law_cuts_right oc_law_is_best kV_law_is_best dc_law_is_best pm_law_is_best ct_law_is_best cd_law_is_best oc_law_led_right kV_law_led_right dc_law_led_right pm_law_led_right ct_law_led_right cd_law_led_right oc_law_none_right kV_law_none_right dc_law_none_right pm_law_none_right ct_law_none_right oc_law_near kV_law_near dc_law_near pm_law_near ct_law_near cd_law_near oc_law_many_right kV_law_many_right dc_law_many_right pm_law_many_right ct_law_many_right cd_law_many_right oc_law kV_law dc_law pm_law ct_law cd_law : Value} {od_is_integer an_is_integer od_is_number an_is_number od_is_below an_is_below od_is_sequence an_is_sequence od_is_ascending an_is_ascending od_is_lot an_is_lot od_is_arc an_is_arc od_check_net an_check_net od_need_node an_need_node od_need_ends an_need_ends od_need_pair an_need_pair od_are_borne an_are_borne od_need_load an_need_load od_surplus an_surplus od_no_flow an_no_flow od_fits an_fits od_flow_fits an_flow_fits od_need_fit an_need_fit od_worth an_worth od_cut_worth an_cut_worth od_left_of an_left_of od_can_go an_can_go od_side_of an_side_of od_leads_of an_leads_of od_come_by an_come_by od_traced an_traced od_walk an_walk od_reached an_reached od_reaching an_reaching od_least_left an_least_left od_gone an_gone od_led_by an_led_by od_led_on an_led_on od_greatest an_greatest od_cuts an_cuts od_law_box an_law_box od_law_take an_law_take od_law_pick an_law_pick od_law_heard an_law_heard od_law_net an_law_net od_law_gone an_law_gone od_law_flow an_law_flow od_law_more an_law_more od_law_is_load an_law_is_load od_law_is_flow an_law_is_flow od_law_worth an_law_worth od_law_lots an_law_lots od_law_best an_law_best od_law_cuts_right an_law_cuts_right od_law_is_best an_law_is_best od_law_led_right an_law_led_right od_law_none_right an_law_none_right od_law_near an_law_near od_law_many_right an_law_many_right od_law an_law : Option Addr} {sl_is_integer sl_is_number sl_is_below sl_is_sequence sl_is_ascending sl_is_lot sl_is_arc sl_check_net sl_need_node sl_need_ends sl_need_pair sl_are_borne sl_need_load sl_surplus sl_no_flow sl_fits sl_flow_fits sl_need_fit sl_worth sl_cut_worth sl_left_of sl_can_go sl_side_of sl_leads_of sl_come_by sl_traced sl_walk sl_reached sl_reaching sl_least_left sl_gone sl_led_by sl_led_on sl_greatest sl_cuts sl_law_box sl_law_take sl_law_pick sl_law_heard sl_law_net sl_law_gone sl_law_flow sl_law_more sl_law_is_load sl_law_is_flow sl_law_worth sl_law_lots sl_law_best sl_law_cuts_right sl_law_is_best sl_law_led_right sl_law_none_right sl_law_near sl_law_many_right sl_law : Array (Option Value)} {tk_BACK tk_FORTH tk_MOST_NODES tf : Tok} {C CO fI cda cc cNR P N : Addr} {nm q : Str} {bs bmr : List Value} {sn : List Str} {sub : List Value} {ab : Bool} {col : Option Bool} {dd odI anI cdd cld ddNR : Option Addr} {k0 k1 k2 k3 k5 : Option Value} {ocI kVI dcI pmI ctI ccl cl eNRc : Value} {slI ccs csl slNR : Array (Option Value)} {vs0 vsNR : Array Value} {arI : Arg} {cdC : ClassData} {jI : Nat} {txt file : Str} {paI : Arguments} {scI : Scope} {q0 q1 q2 q3 q4 q5 q6 q7 q8 q9 : Pos} {pl : Sem Bool}
    (KX : K.In s₁.heap) (hns : s₁.heap.Ns mainGlobals mg) (hb : s₁.heap.Ns builtinsNs mb)
    (hbb : ∀ x : Str, x ≠ "__name__" → mb x = bootBuiltins x) (hlim : s₁.heap.NoLimit) (hg : s₁.gens = #[]) (hbm : ∃ (bm : Addr) (ob : Obj), mg "__builtins__" = some (.ref bm) ∧ bm ≠ builtinsNs ∧ s₁.heap.get? bm = some ob ∧ ob.cls = .type "module" ∧ ob.dict = some builtinsNs ∧ ob.data = .plain)
    (ha : s₁.heap.get? a = some { cls := .type "list", data := .seq vs.toArray }) (hi : IntsAre vs ns) (hl : ns.length ≤ sizeLine) (hmg : mg "law" = some (.ref fa))
    (htab : ∃ a o fd c P, mg "_law_none_right" = some (.ref a) ∧ s₁.heap.get? a = some o ∧ o.data = .func fd ∧ fd.code = .ref c ∧ s₁.heap.IsCode c P #[] ∧ s₁.heap.TableAt c P #[])
    (a_is_integer : PySem.W.nsIn K mainGlobals "is_integer" = some (some (.ref f_is_integer)))
    (l_is_integer : K.lookup f_is_integer = some ⟨oc_is_integer, od_is_integer, .func (PySem.W.fnOf "is_integer" "is_integer" (defArgs (topS 4)) (defBody (topS 4)) (defScope (topS 4)) .none kV_is_integer dc_is_integer pm_is_integer an_is_integer cd_is_integer ct_is_integer), sl_is_integer⟩)
    (c_is_integer : PySem.W.codeIn K cd_is_integer "is_integer" = true)
    (k_is_integer : PySem.W.keepIn K (.ref f_is_integer) = true)
    (a_is_number : PySem.W.nsIn K mainGlobals "is_number" = some (some (.ref f_is_number)))
    (l_is_number : K.lookup f_is_number = some ⟨oc_is_number, od_is_number, .func (PySem.W.fnOf "is_number" "is_number" (defArgs (topS 5)) (defBody (topS 5)) (defScope (topS 5)) .none kV_is_number dc_is_number pm_is_number an_is_number cd_is_number ct_is_number), sl_is_number⟩)
    (c_is_number : PySem.W.codeIn K cd_is_number "is_number" = true)
    (k_is_number : PySem.W.keepIn K (.ref f_is_number) = true)
    (a_is_below : PySem.W.nsIn K mainGlobals "is_below" = some (some (.ref f_is_below)))
    (l_is_below : K.lookup f_is_below = some ⟨oc_is_below, od_is_below, .func (PySem.W.fnOf "is_below" "is_below" (defArgs (topS 6)) (defBody (topS 6)) (defScope (topS 6)) .none kV_is_below dc_is_below pm_is_below an_is_below cd_is_below ct_is_below), sl_is_below⟩)
    (c_is_below : PySem.W.codeIn K cd_is_below "is_below" = true)
    (k_is_below : PySem.W.keepIn K (.ref f_is_below) = true)
    (a_is_sequence : PySem.W.nsIn K mainGlobals "is_sequence" = some (some (.ref f_is_sequence)))
    (l_is_sequence : K.lookup f_is_sequence = some ⟨oc_is_sequence, od_is_sequence, .func (PySem.W.fnOf "is_sequence" "is_sequence" (defArgs (topS 7)) (defBody (topS 7)) (defScope (topS 7)) .none kV_is_sequence dc_is_sequence pm_is_sequence an_is_sequence cd_is_sequence ct_is_sequence), sl_is_sequence⟩)
    (c_is_sequence : PySem.W.codeIn K cd_is_sequence "is_sequence" = true)
    (k_is_sequence : PySem.W.keepIn K (.ref f_is_sequence) = true)
    (a_is_ascending : PySem.W.nsIn K mainGlobals "is_ascending" = some (some (.ref f_is_ascending)))
    (l_is_ascending : K.lookup f_is_ascending = some ⟨oc_is_ascending, od_is_ascending, .func (PySem.W.fnOf "is_ascending" "is_ascending" (defArgs (topS 8)) (defBody (topS 8)) (defScope (topS 8)) .none kV_is_ascending dc_is_ascending pm_is_ascending an_is_ascending cd_is_ascending ct_is_ascending), sl_is_ascending⟩)
    (c_is_ascending : PySem.W.codeIn K cd_is_ascending "is_ascending" = true)
    (k_is_ascending : PySem.W.keepIn K (.ref f_is_ascending) = true)
    (a_is_lot : PySem.W.nsIn K mainGlobals "is_lot" = some (some (.ref f_is_lot)))
    (l_is_lot : K.lookup f_is_lot = some ⟨oc_is_lot, od_is_lot, .func (PySem.W.fnOf "is_lot" "is_lot" (defArgs (topS 9)) (defBody (topS 9)) (defScope (topS 9)) .none kV_is_lot dc_is_lot pm_is_lot an_is_lot cd_is_lot ct_is_lot), sl_is_lot⟩)
    (c_is_lot : PySem.W.codeIn K cd_is_lot "is_lot" = true)
    (k_is_lot : PySem.W.keepIn K (.ref f_is_lot) = true)
    (a_is_arc : PySem.W.nsIn K mainGlobals "is_arc" = some (some (.ref f_is_arc)))
    (l_is_arc : K.lookup f_is_arc = some ⟨oc_is_arc, od_is_arc, .func (PySem.W.fnOf "is_arc" "is_arc" (defArgs (topS 14)) (defBody (topS 14)) (defScope (topS 14)) .none kV_is_arc dc_is_arc pm_is_arc an_is_arc cd_is_arc ct_is_arc), sl_is_arc⟩)
    (c_is_arc : PySem.W.codeIn K cd_is_arc "is_arc" = true)
    (k_is_arc : PySem.W.keepIn K (.ref f_is_arc) = true)
    (a_check_net : PySem.W.nsIn K mainGlobals "check_net" = some (some (.ref f_check_net)))
    (l_check_net : K.lookup f_check_net = some ⟨oc_check_net, od_check_net, .func (PySem.W.fnOf "check_net" "check_net" (defArgs (topS 15)) (defBody (topS 15)) (defScope (topS 15)) .none kV_check_net dc_check_net pm_check_net an_check_net cd_check_net ct_check_net), sl_check_net⟩)
    (c_check_net : PySem.W.codeIn K cd_check_net "check_net" = true)
    (k_check_net : PySem.W.keepIn K (.ref f_check_net) = true)
    (a_need_node : PySem.W.nsIn K mainGlobals "need_node" = some (some (.ref f_need_node)))
    (l_need_node : K.lookup f_need_node = some ⟨oc_need_node, od_need_node, .func (PySem.W.fnOf "need_node" "need_node" (defArgs (topS 16)) (defBody (topS 16)) (defScope (topS 16)) .none kV_need_node dc_need_node pm_need_node an_need_node cd_need_node ct_need_node), sl_need_node⟩)
    (c_need_node : PySem.W.codeIn K cd_need_node "need_node" = true)
    (k_need_node : PySem.W.keepIn K (.ref f_need_node) = true)
    (a_need_ends : PySem.W.nsIn K mainGlobals "need_ends" = some (some (.ref f_need_ends)))
    (l_need_ends : K.lookup f_need_ends = some ⟨oc_need_ends, od_need_ends, .func (PySem.W.fnOf "need_ends" "need_ends" (defArgs (topS 17)) (defBody (topS 17)) (defScope (topS 17)) .none kV_need_ends dc_need_ends pm_need_ends an_need_ends cd_need_ends ct_need_ends), sl_need_ends⟩)
    (c_need_ends : PySem.W.codeIn K cd_need_ends "need_ends" = true)
    (k_need_ends : PySem.W.keepIn K (.ref f_need_ends) = true)
    (a_need_pair : PySem.W.nsIn K mainGlobals "need_pair" = some (some (.ref f_need_pair)))
    (l_need_pair : K.lookup f_need_pair = some ⟨oc_need_pair, od_need_pair, .func (PySem.W.fnOf "need_pair" "need_pair" (defArgs (topS 18)) (defBody (topS 18)) (defScope (topS 18)) .none kV_need_pair dc_need_pair pm_need_pair an_need_pair cd_need_pair ct_need_pair), sl_need_pair⟩)
    (c_need_pair : PySem.W.codeIn K cd_need_pair "need_pair" = true)
    (k_need_pair : PySem.W.keepIn K (.ref f_need_pair) = true)
    (a_are_borne : PySem.W.nsIn K mainGlobals "are_borne" = some (some (.ref f_are_borne)))
    (l_are_borne : K.lookup f_are_borne = some ⟨oc_are_borne, od_are_borne, .func (PySem.W.fnOf "are_borne" "are_borne" (defArgs (topS 19)) (defBody (topS 19)) (defScope (topS 19)) .none kV_are_borne dc_are_borne pm_are_borne an_are_borne cd_are_borne ct_are_borne), sl_are_borne⟩)
    (c_are_borne : PySem.W.codeIn K cd_are_borne "are_borne" = true)
    (k_are_borne : PySem.W.keepIn K (.ref f_are_borne) = true)
    (a_need_load : PySem.W.nsIn K mainGlobals "need_load" = some (some (.ref f_need_load)))
    (l_need_load : K.lookup f_need_load = some ⟨oc_need_load, od_need_load, .func (PySem.W.fnOf "need_load" "need_load" (defArgs (topS 20)) (defBody (topS 20)) (defScope (topS 20)) .none kV_need_load dc_need_load pm_need_load an_need_load cd_need_load ct_need_load), sl_need_load⟩)
    (c_need_load : PySem.W.codeIn K cd_need_load "need_load" = true)
    (k_need_load : PySem.W.keepIn K (.ref f_need_load) = true)
    (a_surplus : PySem.W.nsIn K mainGlobals "surplus" = some (some (.ref f_surplus)))
    (l_surplus : K.lookup f_surplus = some ⟨oc_surplus, od_surplus, .func (PySem.W.fnOf "surplus" "surplus" (defArgs (topS 21)) (defBody (topS 21)) (defScope (topS 21)) .none kV_surplus dc_surplus pm_surplus an_surplus cd_surplus ct_surplus), sl_surplus⟩)
    (c_surplus : PySem.W.codeIn K cd_surplus "surplus" = true)
    (k_surplus : PySem.W.keepIn K (.ref f_surplus) = true)
    (a_no_flow : PySem.W.nsIn K mainGlobals "no_flow" = some (some (.ref f_no_flow)))
    (l_no_flow : K.lookup f_no_flow = some ⟨oc_no_flow, od_no_flow, .func (PySem.W.fnOf "no_flow" "no_flow" (defArgs (topS 22)) (defBody (topS 22)) (defScope (topS 22)) .none kV_no_flow dc_no_flow pm_no_flow an_no_flow cd_no_flow ct_no_flow), sl_no_flow⟩)
    (c_no_flow : PySem.W.codeIn K cd_no_flow "no_flow" = true)
    (k_no_flow : PySem.W.keepIn K (.ref f_no_flow) = true)
    (a_fits : PySem.W.nsIn K mainGlobals "fits" = some (some (.ref f_fits)))
    (l_fits : K.lookup f_fits = some ⟨oc_fits, od_fits, .func (PySem.W.fnOf "fits" "fits" (defArgs (topS 23)) (defBody (topS 23)) (defScope (topS 23)) .none kV_fits dc_fits pm_fits an_fits cd_fits ct_fits), sl_fits⟩)
    (c_fits : PySem.W.codeIn K cd_fits "fits" = true)
    (k_fits : PySem.W.keepIn K (.ref f_fits) = true)
    (a_flow_fits : PySem.W.nsIn K mainGlobals "flow_fits" = some (some (.ref f_flow_fits)))
    (l_flow_fits : K.lookup f_flow_fits = some ⟨oc_flow_fits, od_flow_fits, .func (PySem.W.fnOf "flow_fits" "flow_fits" (defArgs (topS 24)) (defBody (topS 24)) (defScope (topS 24)) .none kV_flow_fits dc_flow_fits pm_flow_fits an_flow_fits cd_flow_fits ct_flow_fits), sl_flow_fits⟩)
    (c_flow_fits : PySem.W.codeIn K cd_flow_fits "flow_fits" = true)
    (k_flow_fits : PySem.W.keepIn K (.ref f_flow_fits) = true)
    (a_need_fit : PySem.W.nsIn K mainGlobals "need_fit" = some (some (.ref f_need_fit)))
    (l_need_fit : K.lookup f_need_fit = some ⟨oc_need_fit, od_need_fit, .func (PySem.W.fnOf "need_fit" "need_fit" (defArgs (topS 25)) (defBody (topS 25)) (defScope (topS 25)) .none kV_need_fit dc_need_fit pm_need_fit an_need_fit cd_need_fit ct_need_fit), sl_need_fit⟩)
    (c_need_fit : PySem.W.codeIn K cd_need_fit "need_fit" = true)
    (k_need_fit : PySem.W.keepIn K (.ref f_need_fit) = true)
    (a_worth : PySem.W.nsIn K mainGlobals "worth" = some (some (.ref f_worth)))
    (l_worth : K.lookup f_worth = some ⟨oc_worth, od_worth, .func (PySem.W.fnOf "worth" "worth" (defArgs (topS 26)) (defBody (topS 26)) (defScope (topS 26)) .none kV_worth dc_worth pm_worth an_worth cd_worth ct_worth), sl_worth⟩)
    (c_worth : PySem.W.codeIn K cd_worth "worth" = true)
    (k_worth : PySem.W.keepIn K (.ref f_worth) = true)
    (a_cut_worth : PySem.W.nsIn K mainGlobals "cut_worth" = some (some (.ref f_cut_worth)))
    (l_cut_worth : K.lookup f_cut_worth = some ⟨oc_cut_worth, od_cut_worth, .func (PySem.W.fnOf "cut_worth" "cut_worth" (defArgs (topS 27)) (defBody (topS 27)) (defScope (topS 27)) .none kV_cut_worth dc_cut_worth pm_cut_worth an_cut_worth cd_cut_worth ct_cut_worth), sl_cut_worth⟩)
    (c_cut_worth : PySem.W.codeIn K cd_cut_worth "cut_worth" = true)
    (k_cut_worth : PySem.W.keepIn K (.ref f_cut_worth) = true)
    (a_left_of : PySem.W.nsIn K mainGlobals "left_of" = some (some (.ref f_left_of)))
    (l_left_of : K.lookup f_left_of = some ⟨oc_left_of, od_left_of, .func (PySem.W.fnOf "left_of" "left_of" (defArgs (topS 28)) (defBody (topS 28)) (defScope (topS 28)) .none kV_left_of dc_left_of pm_left_of an_left_of cd_left_of ct_left_of), sl_left_of⟩)
    (c_left_of : PySem.W.codeIn K cd_left_of "left_of" = true)
    (k_left_of : PySem.W.keepIn K (.ref f_left_of) = true)
    (a_can_go : PySem.W.nsIn K mainGlobals "can_go" = some (some (.ref f_can_go)))
    (l_can_go : K.lookup f_can_go = some ⟨oc_can_go, od_can_go, .func (PySem.W.fnOf "can_go" "can_go" (defArgs (topS 29)) (defBody (topS 29)) (defScope (topS 29)) .none kV_can_go dc_can_go pm_can_go an_can_go cd_can_go ct_can_go), sl_can_go⟩)
    (c_can_go : PySem.W.codeIn K cd_can_go "can_go" = true)
    (k_can_go : PySem.W.keepIn K (.ref f_can_go) = true)
    (a_side_of : PySem.W.nsIn K mainGlobals "side_of" = some (some (.ref f_side_of)))
    (l_side_of : K.lookup f_side_of = some ⟨oc_side_of, od_side_of, .func (PySem.W.fnOf "side_of" "side_of" (defArgs (topS 30)) (defBody (topS 30)) (defScope (topS 30)) .none kV_side_of dc_side_of pm_side_of an_side_of cd_side_of ct_side_of), sl_side_of⟩)
    (c_side_of : PySem.W.codeIn K cd_side_of "side_of" = true)
    (k_side_of : PySem.W.keepIn K (.ref f_side_of) = true)
    (a_leads_of : PySem.W.nsIn K mainGlobals "leads_of" = some (some (.ref f_leads_of)))
    (l_leads_of : K.lookup f_leads_of = some ⟨oc_leads_of, od_leads_of, .func (PySem.W.fnOf "leads_of" "leads_of" (defArgs (topS 31)) (defBody (topS 31)) (defScope (topS 31)) .none kV_leads_of dc_leads_of pm_leads_of an_leads_of cd_leads_of ct_leads_of), sl_leads_of⟩)
    (c_leads_of : PySem.W.codeIn K cd_leads_of "leads_of" = true)
    (k_leads_of : PySem.W.keepIn K (.ref f_leads_of) = true)
    (a_come_by : PySem.W.nsIn K mainGlobals "come_by" = some (some (.ref f_come_by)))
    (l_come_by : K.lookup f_come_by = some ⟨oc_come_by, od_come_by, .func (PySem.W.fnOf "come_by" "come_by" (defArgs (topS 32)) (defBody (topS 32)) (defScope (topS 32)) .none kV_come_by dc_come_by pm_come_by an_come_by cd_come_by ct_come_by), sl_come_by⟩)
    (c_come_by : PySem.W.codeIn K cd_come_by "come_by" = true)
    (k_come_by : PySem.W.keepIn K (.ref f_come_by) = true)
    (a_traced : PySem.W.nsIn K mainGlobals "traced" = some (some (.ref f_traced)))
    (l_traced : K.lookup f_traced = some ⟨oc_traced, od_traced, .func (PySem.W.fnOf "traced" "traced" (defArgs (topS 33)) (defBody (topS 33)) (defScope (topS 33)) .none kV_traced dc_traced pm_traced an_traced cd_traced ct_traced), sl_traced⟩)
    (c_traced : PySem.W.codeIn K cd_traced "traced" = true)
    (k_traced : PySem.W.keepIn K (.ref f_traced) = true)
    (a_walk : PySem.W.nsIn K mainGlobals "walk" = some (some (.ref f_walk)))
    (l_walk : K.lookup f_walk = some ⟨oc_walk, od_walk, .func (PySem.W.fnOf "walk" "walk" (defArgs (topS 34)) (defBody (topS 34)) (defScope (topS 34)) .none kV_walk dc_walk pm_walk an_walk cd_walk ct_walk), sl_walk⟩)
    (c_walk : PySem.W.codeIn K cd_walk "walk" = true)
    (k_walk : PySem.W.keepIn K (.ref f_walk) = true)
    (a_reached : PySem.W.nsIn K mainGlobals "reached" = some (some (.ref f_reached)))
    (l_reached : K.lookup f_reached = some ⟨oc_reached, od_reached, .func (PySem.W.fnOf "reached" "reached" (defArgs (topS 35)) (defBody (topS 35)) (defScope (topS 35)) .none kV_reached dc_reached pm_reached an_reached cd_reached ct_reached), sl_reached⟩)
    (c_reached : PySem.W.codeIn K cd_reached "reached" = true)
    (k_reached : PySem.W.keepIn K (.ref f_reached) = true)
    (a_reaching : PySem.W.nsIn K mainGlobals "reaching" = some (some (.ref f_reaching)))
    (l_reaching : K.lookup f_reaching = some ⟨oc_reaching, od_reaching, .func (PySem.W.fnOf "reaching" "reaching" (defArgs (topS 36)) (defBody (topS 36)) (defScope (topS 36)) .none kV_reaching dc_reaching pm_reaching an_reaching cd_reaching ct_reaching), sl_reaching⟩)
    (c_reaching : PySem.W.codeIn K cd_reaching "reaching" = true)
    (k_reaching : PySem.W.keepIn K (.ref f_reaching) = true)
    (a_least_left : PySem.W.nsIn K mainGlobals "least_left" = some (some (.ref f_least_left)))
    (l_least_left : K.lookup f_least_left = some ⟨oc_least_left, od_least_left, .func (PySem.W.fnOf "least_left" "least_left" (defArgs (topS 37)) (defBody (topS 37)) (defScope (topS 37)) .none kV_least_left dc_least_left pm_least_left an_least_left cd_least_left ct_least_left), sl_least_left⟩)
    (c_least_left : PySem.W.codeIn K cd_least_left "least_left" = true)
    (k_least_left : PySem.W.keepIn K (.ref f_least_left) = true)
    (a_gone : PySem.W.nsIn K mainGlobals "gone" = some (some (.ref f_gone)))
    (l_gone : K.lookup f_gone = some ⟨oc_gone, od_gone, .func (PySem.W.fnOf "gone" "gone" (defArgs (topS 38)) (defBody (topS 38)) (defScope (topS 38)) .none kV_gone dc_gone pm_gone an_gone cd_gone ct_gone), sl_gone⟩)
    (c_gone : PySem.W.codeIn K cd_gone "gone" = true)
    (k_gone : PySem.W.keepIn K (.ref f_gone) = true)
    (a_led_by : PySem.W.nsIn K mainGlobals "led_by" = some (some (.ref f_led_by)))
    (l_led_by : K.lookup f_led_by = some ⟨oc_led_by, od_led_by, .func (PySem.W.fnOf "led_by" "led_by" (defArgs (topS 39)) (defBody (topS 39)) (defScope (topS 39)) .none kV_led_by dc_led_by pm_led_by an_led_by cd_led_by ct_led_by), sl_led_by⟩)
    (c_led_by : PySem.W.codeIn K cd_led_by "led_by" = true)
    (k_led_by : PySem.W.keepIn K (.ref f_led_by) = true)
    (a_led_on : PySem.W.nsIn K mainGlobals "led_on" = some (some (.ref f_led_on)))
    (l_led_on : K.lookup f_led_on = some ⟨oc_led_on, od_led_on, .func (PySem.W.fnOf "led_on" "led_on" (defArgs (topS 40)) (defBody (topS 40)) (defScope (topS 40)) .none kV_led_on dc_led_on pm_led_on an_led_on cd_led_on ct_led_on), sl_led_on⟩)
    (c_led_on : PySem.W.codeIn K cd_led_on "led_on" = true)
    (k_led_on : PySem.W.keepIn K (.ref f_led_on) = true)
    (a_greatest : PySem.W.nsIn K mainGlobals "greatest" = some (some (.ref f_greatest)))
    (l_greatest : K.lookup f_greatest = some ⟨oc_greatest, od_greatest, .func (PySem.W.fnOf "greatest" "greatest" (defArgs (topS 41)) (defBody (topS 41)) (defScope (topS 41)) .none kV_greatest dc_greatest pm_greatest an_greatest cd_greatest ct_greatest), sl_greatest⟩)
    (c_greatest : PySem.W.codeIn K cd_greatest "greatest" = true)
    (k_greatest : PySem.W.keepIn K (.ref f_greatest) = true)
    (a_cuts : PySem.W.nsIn K mainGlobals "cuts" = some (some (.ref f_cuts)))
    (l_cuts : K.lookup f_cuts = some ⟨oc_cuts, od_cuts, .func (PySem.W.fnOf "cuts" "cuts" (defArgs (topS 42)) (defBody (topS 42)) (defScope (topS 42)) .none kV_cuts dc_cuts pm_cuts an_cuts cd_cuts ct_cuts), sl_cuts⟩)
    (c_cuts : PySem.W.codeIn K cd_cuts "cuts" = true)
    (k_cuts : PySem.W.keepIn K (.ref f_cuts) = true)
    (a_law_box : PySem.W.nsIn K mainGlobals "_law_box" = some (some (.ref f_law_box)))
    (l_law_box : K.lookup f_law_box = some ⟨oc_law_box, od_law_box, .func (PySem.W.fnOf "_law_box" "_law_box" (defArgs (topS 44)) (defBody (topS 44)) (defScope (topS 44)) .none kV_law_box dc_law_box pm_law_box an_law_box cd_law_box ct_law_box), sl_law_box⟩)
    (c_law_box : PySem.W.codeIn K cd_law_box "_law_box" = true)
    (k_law_box : PySem.W.keepIn K (.ref f_law_box) = true)
    (a_law_take : PySem.W.nsIn K mainGlobals "_law_take" = some (some (.ref f_law_take)))
    (l_law_take : K.lookup f_law_take = some ⟨oc_law_take, od_law_take, .func (PySem.W.fnOf "_law_take" "_law_take" (defArgs (topS 45)) (defBody (topS 45)) (defScope (topS 45)) .none kV_law_take dc_law_take pm_law_take an_law_take cd_law_take ct_law_take), sl_law_take⟩)
    (c_law_take : PySem.W.codeIn K cd_law_take "_law_take" = true)
    (k_law_take : PySem.W.keepIn K (.ref f_law_take) = true)
    (a_law_pick : PySem.W.nsIn K mainGlobals "_law_pick" = some (some (.ref f_law_pick)))
    (l_law_pick : K.lookup f_law_pick = some ⟨oc_law_pick, od_law_pick, .func (PySem.W.fnOf "_law_pick" "_law_pick" (defArgs (topS 46)) (defBody (topS 46)) (defScope (topS 46)) .none kV_law_pick dc_law_pick pm_law_pick an_law_pick cd_law_pick ct_law_pick), sl_law_pick⟩)
    (c_law_pick : PySem.W.codeIn K cd_law_pick "_law_pick" = true)
    (k_law_pick : PySem.W.keepIn K (.ref f_law_pick) = true)
    (a_law_heard : PySem.W.nsIn K mainGlobals "_law_heard" = some (some (.ref f_law_heard)))
    (l_law_heard : K.lookup f_law_heard = some ⟨oc_law_heard, od_law_heard, .func (PySem.W.fnOf "_law_heard" "_law_heard" (defArgs (topS 47)) (defBody (topS 47)) (defScope (topS 47)) .none kV_law_heard dc_law_heard pm_law_heard an_law_heard cd_law_heard ct_law_heard), sl_law_heard⟩)
    (c_law_heard : PySem.W.codeIn K cd_law_heard "_law_heard" = true)
    (k_law_heard : PySem.W.keepIn K (.ref f_law_heard) = true)
    (a_law_net : PySem.W.nsIn K mainGlobals "_law_net" = some (some (.ref f_law_net)))
    (l_law_net : K.lookup f_law_net = some ⟨oc_law_net, od_law_net, .func (PySem.W.fnOf "_law_net" "_law_net" (defArgs (topS 48)) (defBody (topS 48)) (defScope (topS 48)) .none kV_law_net dc_law_net pm_law_net an_law_net cd_law_net ct_law_net), sl_law_net⟩)
    (c_law_net : PySem.W.codeIn K cd_law_net "_law_net" = true)
    (k_law_net : PySem.W.keepIn K (.ref f_law_net) = true)
    (a_law_gone : PySem.W.nsIn K mainGlobals "_law_gone" = some (some (.ref f_law_gone)))
    (l_law_gone : K.lookup f_law_gone = some ⟨oc_law_gone, od_law_gone, .func (PySem.W.fnOf "_law_gone" "_law_gone" (defArgs (topS 49)) (defBody (topS 49)) (defScope (topS 49)) .none kV_law_gone dc_law_gone pm_law_gone an_law_gone cd_law_gone ct_law_gone), sl_law_gone⟩)
    (c_law_gone : PySem.W.codeIn K cd_law_gone "_law_gone" = true)
    (k_law_gone : PySem.W.keepIn K (.ref f_law_gone) = true)
    (a_law_flow : PySem.W.nsIn K mainGlobals "_law_flow" = some (some (.ref f_law_flow)))
    (l_law_flow : K.lookup f_law_flow = some ⟨oc_law_flow, od_law_flow, .func (PySem.W.fnOf "_law_flow" "_law_flow" (defArgs (topS 50)) (defBody (topS 50)) (defScope (topS 50)) .none kV_law_flow dc_law_flow pm_law_flow an_law_flow cd_law_flow ct_law_flow), sl_law_flow⟩)
    (c_law_flow : PySem.W.codeIn K cd_law_flow "_law_flow" = true)
    (k_law_flow : PySem.W.keepIn K (.ref f_law_flow) = true)
    (a_law_more : PySem.W.nsIn K mainGlobals "_law_more" = some (some (.ref f_law_more)))
    (l_law_more : K.lookup f_law_more = some ⟨oc_law_more, od_law_more, .func (PySem.W.fnOf "_law_more" "_law_more" (defArgs (topS 51)) (defBody (topS 51)) (defScope (topS 51)) .none kV_law_more dc_law_more pm_law_more an_law_more cd_law_more ct_law_more), sl_law_more⟩)
    (c_law_more : PySem.W.codeIn K cd_law_more "_law_more" = true)
    (k_law_more : PySem.W.keepIn K (.ref f_law_more) = true)
    (a_law_is_load : PySem.W.nsIn K mainGlobals "_law_is_load" = some (some (.ref f_law_is_load)))
    (l_law_is_load : K.lookup f_law_is_load = some ⟨oc_law_is_load, od_law_is_load, .func (PySem.W.fnOf "_law_is_load" "_law_is_load" (defArgs (topS 52)) (defBody (topS 52)) (defScope (topS 52)) .none kV_law_is_load dc_law_is_load pm_law_is_load an_law_is_load cd_law_is_load ct_law_is_load), sl_law_is_load⟩)
    (c_law_is_load : PySem.W.codeIn K cd_law_is_load "_law_is_load" = true)
    (k_law_is_load : PySem.W.keepIn K (.ref f_law_is_load) = true)
    (a_law_is_flow : PySem.W.nsIn K mainGlobals "_law_is_flow" = some (some (.ref f_law_is_flow)))
    (l_law_is_flow : K.lookup f_law_is_flow = some ⟨oc_law_is_flow, od_law_is_flow, .func (PySem.W.fnOf "_law_is_flow" "_law_is_flow" (defArgs (topS 53)) (defBody (topS 53)) (defScope (topS 53)) .none kV_law_is_flow dc_law_is_flow pm_law_is_flow an_law_is_flow cd_law_is_flow ct_law_is_flow), sl_law_is_flow⟩)
    (c_law_is_flow : PySem.W.codeIn K cd_law_is_flow "_law_is_flow" = true)
    (k_law_is_flow : PySem.W.keepIn K (.ref f_law_is_flow) = true)
    (a_law_worth : PySem.W.nsIn K mainGlobals "_law_worth" = some (some (.ref f_law_worth)))
    (l_law_worth : K.lookup f_law_worth = some ⟨oc_law_worth, od_law_worth, .func (PySem.W.fnOf "_law_worth" "_law_worth" (defArgs (topS 54)) (defBody (topS 54)) (defScope (topS 54)) .none kV_law_worth dc_law_worth pm_law_worth an_law_worth cd_law_worth ct_law_worth), sl_law_worth⟩)
    (c_law_worth : PySem.W.codeIn K cd_law_worth "_law_worth" = true)
    (k_law_worth : PySem.W.keepIn K (.ref f_law_worth) = true)
    (a_law_lots : PySem.W.nsIn K mainGlobals "_law_lots" = some (some (.ref f_law_lots)))
    (l_law_lots : K.lookup f_law_lots = some ⟨oc_law_lots, od_law_lots, .func (PySem.W.fnOf "_law_lots" "_law_lots" (defArgs (topS 55)) (defBody (topS 55)) (defScope (topS 55)) .none kV_law_lots dc_law_lots pm_law_lots an_law_lots cd_law_lots ct_law_lots), sl_law_lots⟩)
    (c_law_lots : PySem.W.codeIn K cd_law_lots "_law_lots" = true)
    (k_law_lots : PySem.W.keepIn K (.ref f_law_lots) = true)
    (a_law_best : PySem.W.nsIn K mainGlobals "_law_best" = some (some (.ref f_law_best)))
    (l_law_best : K.lookup f_law_best = some ⟨oc_law_best, od_law_best, .func (PySem.W.fnOf "_law_best" "_law_best" (defArgs (topS 56)) (defBody (topS 56)) (defScope (topS 56)) .none kV_law_best dc_law_best pm_law_best an_law_best cd_law_best ct_law_best), sl_law_best⟩)
    (c_law_best : PySem.W.codeIn K cd_law_best "_law_best" = true)
    (k_law_best : PySem.W.keepIn K (.ref f_law_best) = true)
    (a_law_cuts_right : PySem.W.nsIn K mainGlobals "_law_cuts_right" = some (some (.ref f_law_cuts_right)))
    (l_law_cuts_right : K.lookup f_law_cuts_right = some ⟨oc_law_cuts_right, od_law_cuts_right, .func (PySem.W.fnOf "_law_cuts_right" "_law_cuts_right" (defArgs (topS 57)) (defBody (topS 57)) (defScope (topS 57)) .none kV_law_cuts_right dc_law_cuts_right pm_law_cuts_right an_law_cuts_right cd_law_cuts_right ct_law_cuts_right), sl_law_cuts_right⟩)
    (c_law_cuts_right : PySem.W.codeIn K cd_law_cuts_right "_law_cuts_right" = true)
    (k_law_cuts_right : PySem.W.keepIn K (.ref f_law_cuts_right) = true)
    (a_law_is_best : PySem.W.nsIn K mainGlobals "_law_is_best" = some (some (.ref f_law_is_best)))
    (l_law_is_best : K.lookup f_law_is_best = some ⟨oc_law_is_best, od_law_is_best, .func (PySem.W.fnOf "_law_is_best" "_law_is_best" (defArgs (topS 58)) (defBody (topS 58)) (defScope (topS 58)) .none kV_law_is_best dc_law_is_best pm_law_is_best an_law_is_best cd_law_is_best ct_law_is_best), sl_law_is_best⟩)
    (c_law_is_best : PySem.W.codeIn K cd_law_is_best "_law_is_best" = true)
    (k_law_is_best : PySem.W.keepIn K (.ref f_law_is_best) = true)
    (a_law_led_right : PySem.W.nsIn K mainGlobals "_law_led_right" = some (some (.ref f_law_led_right)))
    (l_law_led_right : K.lookup f_law_led_right = some ⟨oc_law_led_right, od_law_led_right, .func (PySem.W.fnOf "_law_led_right" "_law_led_right" (defArgs (topS 59)) (defBody (topS 59)) (defScope (topS 59)) .none kV_law_led_right dc_law_led_right pm_law_led_right an_law_led_right cd_law_led_right ct_law_led_right), sl_law_led_right⟩)
    (c_law_led_right : PySem.W.codeIn K cd_law_led_right "_law_led_right" = true)
    (k_law_led_right : PySem.W.keepIn K (.ref f_law_led_right) = true)
    (a_law_none_right : PySem.W.nsIn K mainGlobals "_law_none_right" = some (some (.ref f_law_none_right)))
    (l_law_none_right : K.lookup f_law_none_right = some ⟨oc_law_none_right, od_law_none_right, .func (PySem.W.fnOf "_law_none_right" "_law_none_right" (defArgs (topS 60)) (defBody (topS 60)) (defScope (topS 60)) .none kV_law_none_right dc_law_none_right pm_law_none_right an_law_none_right (.ref cNR) ct_law_none_right), sl_law_none_right⟩)
    (c_law_none_right : PySem.W.codeIn K (.ref cNR) "_law_none_right" = true)
    (k_law_none_right : PySem.W.keepIn K (.ref f_law_none_right) = true)
    (a_law_near : PySem.W.nsIn K mainGlobals "_law_near" = some (some (.ref f_law_near)))
    (l_law_near : K.lookup f_law_near = some ⟨oc_law_near, od_law_near, .func (PySem.W.fnOf "_law_near" "_law_near" (defArgs (topS 61)) (defBody (topS 61)) (defScope (topS 61)) .none kV_law_near dc_law_near pm_law_near an_law_near cd_law_near ct_law_near), sl_law_near⟩)
    (c_law_near : PySem.W.codeIn K cd_law_near "_law_near" = true)
    (k_law_near : PySem.W.keepIn K (.ref f_law_near) = true)
    (a_law_many_right : PySem.W.nsIn K mainGlobals "_law_many_right" = some (some (.ref f_law_many_right)))
    (l_law_many_right : K.lookup f_law_many_right = some ⟨oc_law_many_right, od_law_many_right, .func (PySem.W.fnOf "_law_many_right" "_law_many_right" (defArgs (topS 62)) (defBody (topS 62)) (defScope (topS 62)) .none kV_law_many_right dc_law_many_right pm_law_many_right an_law_many_right cd_law_many_right ct_law_many_right), sl_law_many_right⟩)
    (c_law_many_right : PySem.W.codeIn K cd_law_many_right "_law_many_right" = true)
    (k_law_many_right : PySem.W.keepIn K (.ref f_law_many_right) = true)
    (a_law : PySem.W.nsIn K mainGlobals "law" = some (some (.ref f_law)))
    (l_law : K.lookup f_law = some ⟨oc_law, od_law, .func (PySem.W.fnOf "law" "law" (defArgs (topS 63)) (defBody (topS 63)) (defScope (topS 63)) .none kV_law dc_law pm_law an_law cd_law ct_law), sl_law⟩)
    (c_law : PySem.W.codeIn K cd_law "law" = true)
    (k_law : PySem.W.keepIn K (.ref f_law) = true)
    (n_isinstance : PySem.W.nsIn K mainGlobals "isinstance" = some none)
    (n_all : PySem.W.nsIn K mainGlobals "all" = some none)
    (n_sum : PySem.W.nsIn K mainGlobals "sum" = some none)
    (n_min : PySem.W.nsIn K mainGlobals "min" = some none)
    (n_sorted : PySem.W.nsIn K mainGlobals "sorted" = some none)
    (n_abs : PySem.W.nsIn K mainGlobals "abs" = some none)
    (n_range : PySem.W.nsIn K mainGlobals "range" = some none)
    (n_zip : PySem.W.nsIn K mainGlobals "zip" = some none)
    (n_enumerate : PySem.W.nsIn K mainGlobals "enumerate" = some none)
    (n_tuple : PySem.W.nsIn K mainGlobals "tuple" = some none)
    (n_list : PySem.W.nsIn K mainGlobals "list" = some none)
    (n_int : PySem.W.nsIn K mainGlobals "int" = some none)
    (n_bool : PySem.W.nsIn K mainGlobals "bool" = some none)
    (n_len : PySem.W.nsIn K mainGlobals "len" = some none)
    (n_repr : PySem.W.nsIn K mainGlobals "repr" = some none)
    (n_super : PySem.W.nsIn K mainGlobals "super" = some none)
    (v_BACK : PySem.W.nsIn K mainGlobals "BACK" = some (some (.int (-1) tk_BACK)))
    (v_FORTH : PySem.W.nsIn K mainGlobals "FORTH" = some (some (.int 1 tk_FORTH)))
    (v_MOST_NODES : PySem.W.nsIn K mainGlobals "MOST_NODES" = some (some (.int 2000 tk_MOST_NODES)))
    (aC : PySem.W.nsIn K mainGlobals "Refused" = some (some (.ref C)))
    (aO : PySem.W.nsIn K mainGlobals "OutError" = some (some (.ref CO)))
    (xC : K.lookup C = some (excClassObj nm q C N bs bmr true sn sub ab col dd k0 k1 k2 k3 k5 "ValueError.__new__"))
    (xV : PySem.HandSPX.refsVE bmr = true)
    (saC : PySem.W.findIn K (.ref C) "__setattr__" = some (some (.builtin "object.__setattr__")))
    (exC : PySem.W.subIn K (.ref C) (.type "BaseException") = some true)
    (tyC : PySem.W.typeIn K (.ref C) = some (.type "type"))
    (kC : PySem.W.keepIn K (.ref C) = true)
    (iI : PySem.W.findIn K (.ref C) "__init__" = some (some (.ref fI)))
    (tI : PySem.W.typeIn K (.ref fI) = some (.type "function"))
    (lI : K.lookup fI = some ⟨ocI, odI, .func (PySem.W.ksFn "__init__" "Refused.__init__" paI [.Expr (.Call (.Attribute (.Call (.Name "super" q0) [] [] q1) "__init__" q2) [.Constant (.str txt) jI q3] [] q4) q5, .Assign [.Attribute (.Name "self" q6) "at" q7] (.Name "at" q8) q9] scI .none kVI dcI pmI anI (.ref cda) ctI cc), slI⟩)
    (cI : PySem.W.codeIn K (.ref cda) "Refused.__init__" = true)
    (sI : InitS scI)
    (bI : ∀ us : List Value, us.length = 2 → bindArgs (PySem.W.ksFn "__init__" "Refused.__init__" paI [.Expr (.Call (.Attribute (.Call (.Name "super" q0) [] [] q1) "__init__" q2) [.Constant (.str txt) jI q3] [] q4) q5, .Assign [.Attribute (.Name "self" q6) "at" q7] (.Name "at" q8) q9] scI .none kVI dcI pmI anI (.ref cda) ctI cc) ⟨us, []⟩ = pure ((["self", "at"] : List Str).zip us))
    (hp : (paI.posonlyargs ++ paI.args).head? = some arI)
    (har : arI.arg = "self")
    (codI : K.lookup cda = some ⟨ccl, cdd, .fields vs0, ccs⟩)
    (hvs : vs0[2]? = some (.str file tf))
    (hfile : ((PG.main.file : Str) == file) = true)
    (cell : K.lookup cc = some ⟨cl, cld, .cell (some (.ref C)), csl⟩)
    (hD : PySem.W.clsIn K C = some cdC)
    (hsub : PySem.W.mroIn K C (.ref C) = some true)
    (ho : PySem.W.nsIn K cStatics "thirdparty.any" = some none)
    (hm : PySem.W.ks_superIn K C C "__init__" = some (some (.builtin "ValueError.__init__")))
    (hB : PySem.W.subIn K (.ref C) (.type "ValueError") = some true)
    (hno : PySem.W.findIn K (.ref C) "at" = some none)
    (gaC : PySem.W.findIn K (.ref C) "__getattribute__" = some (some (.builtin "BaseException.__getattribute__")))
    (ggC : PySem.W.findIn K (.ref C) "__getattr__" = some none)
    (hdC : PySem.W.hasDictIn K C = true)
    (caC : PySem.W.findIn K (.ref C) "__class__" = some (some (.builtin "object.__class__")))
    (spC : PySem.W.specialIn K (.builtin "object.__class__") "__get__" = some (some (.builtin "getset_descriptor.__get__")))
    (tkC : PySem.W.takesIn K (.builtin "object.__class__") = some true)
    (obC : PySem.W.mroIn K C (.type "object") = some true)
    (isC : PySem.W.kitOne K (.ref C) (.ref CO) = some true)
    (emC : PySem.W.exmOne K (.ref C) (.ref C) = some true)
    (he : ∀ env : Env, eval (.Call (.Attribute (.Call (.Name "super" q0) [] [] q1) "__init__" q2) [.Constant (.str txt) jI q3] [] q4) env = (do
      let ov ← attributeBase (.Call (.Name "super" q0) [] [] q1) "__init__" env (eval (.Call (.Name "super" q0) [] [] q1) env)
      standAt q2.atName
      let (g, own) ← holding [ov] (getMethod ov "__init__" pl)
      callWith q4 g own (backTo q4 (starEach [.Constant (.str txt) jI q3] env)) []))
    (lc : K.lookup cNR = some ⟨eNRc, ddNR, .fields vsNR, slNR⟩)
    (hP : vsNR[11]? = some (.ref P))
    (nP : K.lookup P = none)
    : codeAny (model PG w) callerA (.call (.ref fa) ⟨[.ref a], []⟩) (fun r s' => r = .ok (.ret (.bool true)) ∧ OldK s₁.heap s'.heap ∧ s'.os = s₁.os ∧ AllBare s'.gens) s₁ := by
  have ox : OexC K C := ⟨⟨nm, q, N, bs, bmr, sn, sub, ab, col, dd, k0, k1, k2, k3, k5, xC, xV⟩, saC, exC, tyC, kC⟩
  have rc : RefC K mg C := ⟨PySem.W.mg_of KX hns aC, ox, fI, _, iI, tI, .all bI, fun w base CX => ⟨fun vs H Q E ⟨a, v, e, _⟩ => by rw [e]; rfl, fun A outer s H args us vs Q E hr e0 hb r hsp => (fn_init (P := PG) lI cI sI hp har codI hvs hfile (by decide +kernel) cell e0.mod.kin ox hD hsub (PySem.W.mg_none_of KX hns n_super) ho hm hB hno he).run A outer s H args us vs Q E hr e0 hb r hsp⟩⟩
  let T : Txt K mg := {
    f_is_integer := mkT (st := topS 4) KX hns a_is_integer l_is_integer c_is_integer k_is_integer fun _ _ _ _ _ _ us hl => match us, hl with | [_], _ => rfl
    f_is_number := mkT (st := topS 5) KX hns a_is_number l_is_number c_is_number k_is_number fun _ _ _ _ _ _ us hl => match us, hl with | [_], _ => rfl
    f_is_below := mkT (st := topS 6) KX hns a_is_below l_is_below c_is_below k_is_below fun _ _ _ _ _ _ us hl => match us, hl with | [_, _], _ => rfl
    f_is_sequence := mkT (st := topS 7) KX hns a_is_sequence l_is_sequence c_is_sequence k_is_sequence fun _ _ _ _ _ _ us hl => match us, hl with | [_], _ => rfl
    f_is_ascending := mkT (st := topS 8) KX hns a_is_ascending l_is_ascending c_is_ascending k_is_ascending fun _ _ _ _ _ _ us hl => match us, hl with | [_], _ => rfl
    f_is_lot := mkT (st := topS 9) KX hns a_is_lot l_is_lot c_is_lot k_is_lot fun _ _ _ _ _ _ us hl => match us, hl with | [_, _], _ => rfl
    f_is_arc := mkT (st := topS 14) KX hns a_is_arc l_is_arc c_is_arc k_is_arc fun _ _ _ _ _ _ us hl => match us, hl with | [_, _], _ => rfl
    f_check_net := mkT (st := topS 15) KX hns a_check_net l_check_net c_check_net k_check_net fun _ _ _ _ _ _ us hl => match us, hl with | [_], _ => rfl
    f_need_node := mkT (st := topS 16) KX hns a_need_node l_need_node c_need_node k_need_node fun _ _ _ _ _ _ us hl => match us, hl with | [_, _], _ => rfl
    f_need_ends := mkT (st := topS 17) KX hns a_need_ends l_need_ends c_need_ends k_need_ends fun _ _ _ _ _ _ us hl => match us, hl with | [_, _, _], _ => rfl
    f_need_pair := mkT (st := topS 18) KX hns a_need_pair l_need_pair c_need_pair k_need_pair fun _ _ _ _ _ _ us hl => match us, hl with | [_, _, _], _ => rfl
    f_are_borne := mkT (st := topS 19) KX hns a_are_borne l_are_borne c_are_borne k_are_borne fun _ _ _ _ _ _ us hl => match us, hl with | [_, _], _ => rfl
    f_need_load := mkT (st := topS 20) KX hns a_need_load l_need_load c_need_load k_need_load fun _ _ _ _ _ _ us hl => match us, hl with | [_, _], _ => rfl
    f_surplus := mkT (st := topS 21) KX hns a_surplus l_surplus c_surplus k_surplus fun _ _ _ _ _ _ us hl => match us, hl with | [_, _, _], _ => rfl
    f_no_flow := mkT (st := topS 22) KX hns a_no_flow l_no_flow c_no_flow k_no_flow fun _ _ _ _ _ _ us hl => match us, hl with | [_], _ => rfl
    f_fits := mkT (st := topS 23) KX hns a_fits l_fits c_fits k_fits fun _ _ _ _ _ _ us hl => match us, hl with | [_, _, _, _], _ => rfl
    f_flow_fits := mkT (st := topS 24) KX hns a_flow_fits l_flow_fits c_flow_fits k_flow_fits fun _ _ _ _ _ _ us hl => match us, hl with | [_, _, _, _], _ => rfl
    f_need_fit := mkT (st := topS 25) KX hns a_need_fit l_need_fit c_need_fit k_need_fit fun _ _ _ _ _ _ us hl => match us, hl with | [_, _, _, _], _ => rfl
    f_worth := mkT (st := topS 26) KX hns a_worth l_worth c_worth k_worth fun _ _ _ _ _ _ us hl => match us, hl with | [_, _, _, _], _ => rfl
    f_cut_worth := mkT (st := topS 27) KX hns a_cut_worth l_cut_worth c_cut_worth k_cut_worth fun _ _ _ _ _ _ us hl => match us, hl with | [_, _], _ => rfl
    f_left_of := mkT (st := topS 28) KX hns a_left_of l_left_of c_left_of k_left_of fun _ _ _ _ _ _ us hl => match us, hl with | [_, _, _, _], _ => rfl
    f_can_go := mkT (st := topS 29) KX hns a_can_go l_can_go c_can_go k_can_go fun _ _ _ _ _ _ us hl => match us, hl with | [_, _, _, _], _ => rfl
    f_side_of := mkT (st := topS 30) KX hns a_side_of l_side_of c_side_of k_side_of fun _ _ _ _ _ _ us hl => match us, hl with | [_, _], _ => rfl
    f_leads_of := mkT (st := topS 31) KX hns a_leads_of l_leads_of c_leads_of k_leads_of fun _ _ _ _ _ _ us hl => match us, hl with | [_, _], _ => rfl
    f_come_by := mkT (st := topS 32) KX hns a_come_by l_come_by c_come_by k_come_by fun _ _ _ _ _ _ us hl => match us, hl with | [_, _, _, _], _ => rfl
    f_traced := mkT (st := topS 33) KX hns a_traced l_traced c_traced k_traced fun _ _ _ _ _ _ us hl => match us, hl with | [_, _, _], _ => rfl
    f_walk := mkT (st := topS 34) KX hns a_walk l_walk c_walk k_walk fun _ _ _ _ _ _ us hl => match us, hl with | [_, _, _, _], _ => rfl
    f_reached := mkT (st := topS 35) KX hns a_reached l_reached c_reached k_reached fun _ _ _ _ _ _ us hl => match us, hl with | [_, _, _], _ => rfl
    f_reaching := mkT (st := topS 36) KX hns a_reaching l_reaching c_reaching k_reaching fun _ _ _ _ _ _ us hl => match us, hl with | [_, _, _], _ => rfl
    f_least_left := mkT (st := topS 37) KX hns a_least_left l_least_left c_least_left k_least_left fun _ _ _ _ _ _ us hl => match us, hl with | [_, _, _], _ => rfl
    f_gone := mkT (st := topS 38) KX hns a_gone l_gone c_gone k_gone fun _ _ _ _ _ _ us hl => match us, hl with | [_, _, _], _ => rfl
    f_led_by := mkT (st := topS 39) KX hns a_led_by l_led_by c_led_by k_led_by fun _ _ _ _ _ _ us hl => match us, hl with | [_, _, _, _, _], _ => rfl
    f_led_on := mkT (st := topS 40) KX hns a_led_on l_led_on c_led_on k_led_on fun _ _ _ _ _ _ us hl => match us, hl with | [_, _, _, _], _ => rfl
    f_greatest := mkT (st := topS 41) KX hns a_greatest l_greatest c_greatest k_greatest fun _ _ _ _ _ _ us hl => match us, hl with | [_, _, _], _ => rfl
    f_cuts := mkT (st := topS 42) KX hns a_cuts l_cuts c_cuts k_cuts fun _ _ _ _ _ _ us hl => match us, hl with | [_, _, _], _ => rfl
    f_law_box := mkT (st := topS 44) KX hns a_law_box l_law_box c_law_box k_law_box fun _ _ _ _ _ _ us hl => match us, hl with | [_, _], _ => rfl
    f_law_take := mkT (st := topS 45) KX hns a_law_take l_law_take c_law_take k_law_take fun _ _ _ _ _ _ us hl => match us, hl with | [_, _], _ => rfl
    f_law_pick := mkT (st := topS 46) KX hns a_law_pick l_law_pick c_law_pick k_law_pick fun _ _ _ _ _ _ us hl => match us, hl with | [_, _], _ => rfl
    f_law_heard := mkT (st := topS 47) KX hns a_law_heard l_law_heard c_law_heard k_law_heard fun _ _ _ _ _ _ us hl => match us, hl with | [_], _ => rfl
    f_law_net := mkT (st := topS 48) KX hns a_law_net l_law_net c_law_net k_law_net fun _ _ _ _ _ _ us hl => match us, hl with | [_, _, _], _ => rfl
    f_law_gone := mkT (st := topS 49) KX hns a_law_gone l_law_gone c_law_gone k_law_gone fun _ _ _ _ _ _ us hl => match us, hl with | [_, _, _, _, _], _ => rfl
    f_law_flow := mkT (st := topS 50) KX hns a_law_flow l_law_flow c_law_flow k_law_flow fun _ _ _ _ _ _ us hl => match us, hl with | [_, _, _, _], _ => rfl
    f_law_more := mkT (st := topS 51) KX hns a_law_more l_law_more c_law_more k_law_more fun _ _ _ _ _ _ us hl => match us, hl with | [_, _, _], _ => rfl
    f_law_is_load := mkT (st := topS 52) KX hns a_law_is_load l_law_is_load c_law_is_load k_law_is_load fun _ _ _ _ _ _ us hl => match us, hl with | [_, _], _ => rfl
    f_law_is_flow := mkT (st := topS 53) KX hns a_law_is_flow l_law_is_flow c_law_is_flow k_law_is_flow fun _ _ _ _ _ _ us hl => match us, hl with | [_, _, _, _], _ => rfl
    f_law_worth := mkT (st := topS 54) KX hns a_law_worth l_law_worth c_law_worth k_law_worth fun _ _ _ _ _ _ us hl => match us, hl with | [_, _], _ => rfl
    f_law_lots := mkT (st := topS 55) KX hns a_law_lots l_law_lots c_law_lots k_law_lots fun _ _ _ _ _ _ us hl => match us, hl with | [_, _, _], _ => rfl
    f_law_best := mkT (st := topS 56) KX hns a_law_best l_law_best c_law_best k_law_best fun _ _ _ _ _ _ us hl => match us, hl with | [_], _ => rfl
    f_law_cuts_right := mkT (st := topS 57) KX hns a_law_cuts_right l_law_cuts_right c_law_cuts_right k_law_cuts_right fun _ _ _ _ _ _ us hl => match us, hl with | [_, _, _, _, _, _], _ => rfl
    f_law_is_best := mkT (st := topS 58) KX hns a_law_is_best l_law_is_best c_law_is_best k_law_is_best fun _ _ _ _ _ _ us hl => match us, hl with | [_, _, _, _, _], _ => rfl
    f_law_led_right := mkT (st := topS 59) KX hns a_law_led_right l_law_led_right c_law_led_right k_law_led_right fun _ _ _ _ _ _ us hl => match us, hl with | [_, _, _, _, _, _], _ => rfl
    f_law_none_right := mkT (st := topS 60) KX hns a_law_none_right l_law_none_right c_law_none_right k_law_none_right fun _ _ _ _ _ _ us hl => match us, hl with | [_, _], _ => rfl
    f_law_near := mkT (st := topS 61) KX hns a_law_near l_law_near c_law_near k_law_near fun _ _ _ _ _ _ us hl => match us, hl with | [_, _, _], _ => rfl
    f_law_many_right := mkT (st := topS 62) KX hns a_law_many_right l_law_many_right c_law_many_right k_law_many_right fun _ _ _ _ _ _ us hl => match us, hl with | [_], _ => rfl
    f_law := mkT (st := topS 63) KX hns a_law l_law c_law k_law fun _ _ _ _ _ _ us hl => match us, hl with | [_], _ => rfl
    mg_isinstance := PySem.W.mg_none_of KX hns n_isinstance
    mg_all := PySem.W.mg_none_of KX hns n_all
    mg_sum := PySem.W.mg_none_of KX hns n_sum
    mg_min := PySem.W.mg_none_of KX hns n_min
    mg_sorted := PySem.W.mg_none_of KX hns n_sorted
    mg_abs := PySem.W.mg_none_of KX hns n_abs
    mg_range := PySem.W.mg_none_of KX hns n_range
    mg_zip := PySem.W.mg_none_of KX hns n_zip
    mg_enumerate := PySem.W.mg_none_of KX hns n_enumerate
    mg_tuple := PySem.W.mg_none_of KX hns n_tuple
    mg_list := PySem.W.mg_none_of KX hns n_list
    mg_int := PySem.W.mg_none_of KX hns n_int
    mg_bool := PySem.W.mg_none_of KX hns n_bool
    mg_len := PySem.W.mg_none_of KX hns n_len
    mg_repr := PySem.W.mg_none_of KX hns n_repr
    k_BACK := tk_BACK
    mg_BACK := PySem.W.mg_of KX hns v_BACK
    k_FORTH := tk_FORTH
    mg_FORTH := PySem.W.mg_of KX hns v_FORTH
    k_MOST_NODES := tk_MOST_NODES
    mg_MOST_NODES := PySem.W.mg_of KX hns v_MOST_NODES
    kb_greatest := kb_of fun s ws hl => match ws, hl with | [_, _, _], _ => .of_eq rfl
    kb_cuts := kb_of fun s ws hl => match ws, hl with | [_, _, _], _ => .of_eq rfl
    kb_led_on := kb_of fun s ws hl => match ws, hl with | [_, _, _, _], _ => .of_eq rfl
    C := C
    ref := rc }
  have e := hmg.symm.trans T.f_law.g
  cases e
  have hc : HeC K mg T.C CO := ⟨PySem.W.mg_of KX hns aC, PySem.W.mg_of KX hns aO, ⟨gaC, ggC, exC, hdC⟩, hno, ⟨by rw [hD]; rfl, gaC, ggC, exC, caC, spC, tkC, obC⟩, isC, emC⟩
  obtain ⟨a', o', fd', c', P', h1, h2, h3, h4, h5, h6⟩ := htab
  have e := h1.symm.trans T.f_law_none_right.g
  cases e
  have h2 : s₁.heap.get? f_law_none_right = some o' := h2
  have g1 := KX _ _ l_law_none_right
  rw [h2] at g1
  have g2 := congrArg Obj.data (Option.some.inj g1)
  rw [h3] at g2
  cases g2
  have h4 : (Value.ref cNR) = .ref c' := h4
  cases h4
  obtain ⟨⟨oc, vc, t1, _, t3, t4⟩, tP⟩ := id h6
  have g3 := KX _ _ lc
  rw [t1] at g3
  have g4 := congrArg Obj.data (Option.some.inj g3)
  rw [t3] at g4
  cases g4
  rw [hP] at t4
  cases t4
  exact law_callG KX hns hb hbb hlim hg tP nP (.of h5 h6) hbm ha hi hl ⟨rfl, by decide, by decide⟩ (fun base _ _ TB => ok_law T hc TB rfl) fun s u => .of_eq rfl
end
end DL
section
open PySem PySem.W PyProof.Rows
set_option maxRecDepth 100000 in
set_option maxHeartbeats 8000000 in
open_top DL.hd for PySem.Challenge.rw_outsoonest_k15_whole_greatest_flows_and
end
open PySem PySem.W PyProof.Rows
theorem DL.tab_of {p : Program} {loose : List PySem.Str} {mean : ExcName → Option Value} {mg mb : PySem.Str → Option Value} {h : Heap} {x : PySem.Str} (T : Top p loose mean mg mb h) (e : ((recsOf p).any fun d => d.name == x) = true) :
    ∃ a o fd c P, mg x = some (.ref a) ∧ h.get? a = some o ∧ o.data = .func fd ∧ fd.code = .ref c ∧ h.IsCode c P #[] ∧ h.TableAt c P #[] := by
  obtain ⟨d, hd, hn⟩ := List.any_eq_true.mp e
  obtain ⟨a, o, fd, c, P, h1, r⟩ := T.tab d hd
  rw [beq_iff_eq.mp hn] at h1
  exact ⟨a, o, fd, c, P, h1, r⟩
theorem PySem.Challenge.cw_outsoonest_k15_whole_greatest_flows_and_holds : PySem.Challenge.rw_outsoonest_k15_whole_greatest_flows_and.Holds := by
  refine DL.hd ?_
  k_fill
  refine Att.attach_callB (n := 63) rfl rfl fun w s₀ s₁ mg mb fa o pm cd doc a vs ns G Y ho hd hcd hmg hobj hints hlen hbits hg => ?_
  have KX := km_in_of Y
  have htab := DL.tab_of (x := "_law_none_right") G.T (by decide +kernel)
  refine' DL.fin KX G.T.g G.T.b G.T.builtins G.T.nolimit hg G.T.bmain hobj hints (Nat.le_trans hlen (by decide)) hmg htab ?a_is_integer ?l_is_integer ?c_is_integer ?k_is_integer ?a_is_number ?l_is_number ?c_is_number ?k_is_number ?a_is_below ?l_is_below ?c_is_below ?k_is_below ?a_is_sequence ?l_is_sequence ?c_is_sequence ?k_is_sequence ?a_is_ascending ?l_is_ascending ?c_is_ascending ?k_is_ascending ?a_is_lot ?l_is_lot ?c_is_lot ?k_is_lot ?a_is_arc ?l_is_arc ?c_is_arc ?k_is_arc ?a_check_net ?l_check_net ?c_check_net ?k_check_net ?a_need_node ?l_need_node ?c_need_node ?k_need_node ?a_need_ends ?l_need_ends ?c_need_ends ?k_need_ends ?a_need_pair ?l_need_pair ?c_need_pair ?k_need_pair ?a_are_borne ?l_are_borne ?c_are_borne ?k_are_borne ?a_need_load ?l_need_load ?c_need_load ?k_need_load ?a_surplus ?l_surplus ?c_surplus ?k_surplus ?a_no_flow ?l_no_flow ?c_no_flow ?k_no_flow ?a_fits ?l_fits ?c_fits ?k_fits ?a_flow_fits ?l_flow_fits ?c_flow_fits ?k_flow_fits ?a_need_fit ?l_need_fit ?c_need_fit ?k_need_fit ?a_worth ?l_worth ?c_worth ?k_worth ?a_cut_worth ?l_cut_worth ?c_cut_worth ?k_cut_worth ?a_left_of ?l_left_of ?c_left_of ?k_left_of ?a_can_go ?l_can_go ?c_can_go ?k_can_go ?a_side_of ?l_side_of ?c_side_of ?k_side_of ?a_leads_of ?l_leads_of ?c_leads_of ?k_leads_of ?a_come_by ?l_come_by ?c_come_by ?k_come_by ?a_traced ?l_traced ?c_traced ?k_traced ?a_walk ?l_walk ?c_walk ?k_walk ?a_reached ?l_reached ?c_reached ?k_reached ?a_reaching ?l_reaching ?c_reaching ?k_reaching ?a_least_left ?l_least_left ?c_least_left ?k_least_left ?a_gone ?l_gone ?c_gone ?k_gone ?a_led_by ?l_led_by ?c_led_by ?k_led_by ?a_led_on ?l_led_on ?c_led_on ?k_led_on ?a_greatest ?l_greatest ?c_greatest ?k_greatest ?a_cuts ?l_cuts ?c_cuts ?k_cuts ?a_law_box ?l_law_box ?c_law_box ?k_law_box ?a_law_take ?l_law_take ?c_law_take ?k_law_take ?a_law_pick ?l_law_pick ?c_law_pick ?k_law_pick ?a_law_heard ?l_law_heard ?c_law_heard ?k_law_heard ?a_law_net ?l_law_net ?c_law_net ?k_law_net ?a_law_gone ?l_law_gone ?c_law_gone ?k_law_gone ?a_law_flow ?l_law_flow ?c_law_flow ?k_law_flow ?a_law_more ?l_law_more ?c_law_more ?k_law_more ?a_law_is_load ?l_law_is_load ?c_law_is_load ?k_law_is_load ?a_law_is_flow ?l_law_is_flow ?c_law_is_flow ?k_law_is_flow ?a_law_worth ?l_law_worth ?c_law_worth ?k_law_worth ?a_law_lots ?l_law_lots ?c_law_lots ?k_law_lots ?a_law_best ?l_law_best ?c_law_best ?k_law_best ?a_law_cuts_right ?l_law_cuts_right ?c_law_cuts_right ?k_law_cuts_right ?a_law_is_best ?l_law_is_best ?c_law_is_best ?k_law_is_best ?a_law_led_right ?l_law_led_right ?c_law_led_right ?k_law_led_right ?a_law_none_right ?l_law_none_right ?c_law_none_right ?k_law_none_right ?a_law_near ?l_law_near ?c_law_near ?k_law_near ?a_law_many_right ?l_law_many_right ?c_law_many_right ?k_law_many_right ?a_law ?l_law ?c_law ?k_law ?n_isinstance ?n_all ?n_sum ?n_min ?n_sorted ?n_abs ?n_range ?n_zip ?n_enumerate ?n_tuple ?n_list ?n_int ?n_bool ?n_len ?n_repr ?n_super ?v_BACK ?v_FORTH ?v_MOST_NODES ?aC ?aO ?xC ?xV ?saC ?exC ?tyC ?kC ?iI ?tI ?lI ?cI ?sI ?bI ?hp ?har ?codI ?hvs ?hfile ?cell ?hD ?hsub ?ho ?hm ?hB ?hno ?gaC ?ggC ?hdC ?caC ?spC ?tkC ?obC ?isC ?emC ?he ?lc ?hP ?nP
  (case a_is_integer => k_is)
  (case l_is_integer => k_is)
  (case c_is_integer => k_is)
  (case k_is_integer => k_is)
  (case a_is_number => k_is)
  (case l_is_number => k_is)
  (case c_is_number => k_is)
  (case k_is_number => k_is)
  (case a_is_below => k_is)
  (case l_is_below => k_is)
  (case c_is_below => k_is)
  (case k_is_below => k_is)
  (case a_is_sequence => k_is)
  (case l_is_sequence => k_is)
  (case c_is_sequence => k_is)
  (case k_is_sequence => k_is)
  (case a_is_ascending => k_is)
  (case l_is_ascending => k_is)
  (case c_is_ascending => k_is)
  (case k_is_ascending => k_is)
  (case a_is_lot => k_is)
  (case l_is_lot => k_is)
  (case c_is_lot => k_is)
  (case k_is_lot => k_is)
  (case a_is_arc => k_is)
  (case l_is_arc => k_is)
  (case c_is_arc => k_is)
  (case k_is_arc => k_is)
  (case a_check_net => k_is)
  (case l_check_net => k_is)
  (case c_check_net => k_is)
  (case k_check_net => k_is)
  (case a_need_node => k_is)
  (case l_need_node => k_is)
  (case c_need_node => k_is)
  (case k_need_node => k_is)
  (case a_need_ends => k_is)
  (case l_need_ends => k_is)
  (case c_need_ends => k_is)
  (case k_need_ends => k_is)
  (case a_need_pair => k_is)
  (case l_need_pair => k_is)
  (case c_need_pair => k_is)
  (case k_need_pair => k_is)
  (case a_are_borne => k_is)
  (case l_are_borne => k_is)
  (case c_are_borne => k_is)
  (case k_are_borne => k_is)
  (case a_need_load => k_is)
  (case l_need_load => k_is)
  (case c_need_load => k_is)
  (case k_need_load => k_is)
  (case a_surplus => k_is)
  (case l_surplus => k_is)
  (case c_surplus => k_is)
  (case k_surplus => k_is)
  (case a_no_flow => k_is)
  (case l_no_flow => k_is)
  (case c_no_flow => k_is)
  (case k_no_flow => k_is)
  (case a_fits => k_is)
  (case l_fits => k_is)
  (case c_fits => k_is)
  (case k_fits => k_is)
  (case a_flow_fits => k_is)
  (case l_flow_fits => k_is)
  (case c_flow_fits => k_is)
  (case k_flow_fits => k_is)
  (case a_need_fit => k_is)
  (case l_need_fit => k_is)
  (case c_need_fit => k_is)
  (case k_need_fit => k_is)
  (case a_worth => k_is)
  (case l_worth => k_is)
  (case c_worth => k_is)
  (case k_worth => k_is)
  (case a_cut_worth => k_is)
  (case l_cut_worth => k_is)
  (case c_cut_worth => k_is)
  (case k_cut_worth => k_is)
  (case a_left_of => k_is)
  (case l_left_of => k_is)
  (case c_left_of => k_is)
  (case k_left_of => k_is)
  (case a_can_go => k_is)
  (case l_can_go => k_is)
  (case c_can_go => k_is)
  (case k_can_go => k_is)
  (case a_side_of => k_is)
  (case l_side_of => k_is)
  (case c_side_of => k_is)
  (case k_side_of => k_is)
  (case a_leads_of => k_is)
  (case l_leads_of => k_is)
  (case c_leads_of => k_is)
  (case k_leads_of => k_is)
  (case a_come_by => k_is)
  (case l_come_by => k_is)
  (case c_come_by => k_is)
  (case k_come_by => k_is)
  (case a_traced => k_is)
  (case l_traced => k_is)
  (case c_traced => k_is)
  (case k_traced => k_is)
  (case a_walk => k_is)
  (case l_walk => k_is)
  (case c_walk => k_is)
  (case k_walk => k_is)
  (case a_reached => k_is)
  (case l_reached => k_is)
  (case c_reached => k_is)
  (case k_reached => k_is)
  (case a_reaching => k_is)
  (case l_reaching => k_is)
  (case c_reaching => k_is)
  (case k_reaching => k_is)
  (case a_least_left => k_is)
  (case l_least_left => k_is)
  (case c_least_left => k_is)
  (case k_least_left => k_is)
  (case a_gone => k_is)
  (case l_gone => k_is)
  (case c_gone => k_is)
  (case k_gone => k_is)
  (case a_led_by => k_is)
  (case l_led_by => k_is)
  (case c_led_by => k_is)
  (case k_led_by => k_is)
  (case a_led_on => k_is)
  (case l_led_on => k_is)
  (case c_led_on => k_is)
  (case k_led_on => k_is)
  (case a_greatest => k_is)
  (case l_greatest => k_is)
  (case c_greatest => k_is)
  (case k_greatest => k_is)
  (case a_cuts => k_is)
  (case l_cuts => k_is)
  (case c_cuts => k_is)
  (case k_cuts => k_is)
  (case a_law_box => k_is)
  (case l_law_box => k_is)
  (case c_law_box => k_is)
  (case k_law_box => k_is)
  (case a_law_take => k_is)
  (case l_law_take => k_is)
  (case c_law_take => k_is)
  (case k_law_take => k_is)
  (case a_law_pick => k_is)
  (case l_law_pick => k_is)
  (case c_law_pick => k_is)
  (case k_law_pick => k_is)
  (case a_law_heard => k_is)
  (case l_law_heard => k_is)
  (case c_law_heard => k_is)
  (case k_law_heard => k_is)
  (case a_law_net => k_is)
  (case l_law_net => k_is)
  (case c_law_net => k_is)
  (case k_law_net => k_is)
  (case a_law_gone => k_is)
  (case l_law_gone => k_is)
  (case c_law_gone => k_is)
  (case k_law_gone => k_is)
  (case a_law_flow => k_is)
  (case l_law_flow => k_is)
  (case c_law_flow => k_is)
  (case k_law_flow => k_is)
  (case a_law_more => k_is)
  (case l_law_more => k_is)
  (case c_law_more => k_is)
  (case k_law_more => k_is)
  (case a_law_is_load => k_is)
  (case l_law_is_load => k_is)
  (case c_law_is_load => k_is)
  (case k_law_is_load => k_is)
  (case a_law_is_flow => k_is)
  (case l_law_is_flow => k_is)
  (case c_law_is_flow => k_is)
  (case k_law_is_flow => k_is)
  (case a_law_worth => k_is)
  (case l_law_worth => k_is)
  (case c_law_worth => k_is)
  (case k_law_worth => k_is)
  (case a_law_lots => k_is)
  (case l_law_lots => k_is)
  (case c_law_lots => k_is)
  (case k_law_lots => k_is)
  (case a_law_best => k_is)
  (case l_law_best => k_is)
  (case c_law_best => k_is)
  (case k_law_best => k_is)
  (case a_law_cuts_right => k_is)
  (case l_law_cuts_right => k_is)
  (case c_law_cuts_right => k_is)
  (case k_law_cuts_right => k_is)
  (case a_law_is_best => k_is)
  (case l_law_is_best => k_is)
  (case c_law_is_best => k_is)
  (case k_law_is_best => k_is)
  (case a_law_led_right => k_is)
  (case l_law_led_right => k_is)
  (case c_law_led_right => k_is)
  (case k_law_led_right => k_is)
  (case a_law_none_right => k_is)
  (case l_law_none_right => k_is)
  (case c_law_none_right => k_is)
  (case k_law_none_right => k_is)
  (case a_law_near => k_is)
  (case l_law_near => k_is)
  (case c_law_near => k_is)
  (case k_law_near => k_is)
  (case a_law_many_right => k_is)
  (case l_law_many_right => k_is)
  (case c_law_many_right => k_is)
  (case k_law_many_right => k_is)
  (case a_law => k_is)
  (case l_law => k_is)
  (case c_law => k_is)
  (case k_law => k_is)
  (case n_isinstance => k_is)
  (case n_all => k_is)
  (case n_sum => k_is)
  (case n_min => k_is)
  (case n_sorted => k_is)
  (case n_abs => k_is)
  (case n_range => k_is)
  (case n_zip => k_is)
  (case n_enumerate => k_is)
  (case n_tuple => k_is)
  (case n_list => k_is)
  (case n_int => k_is)
  (case n_bool => k_is)
  (case n_len => k_is)
  (case n_repr => k_is)
  (case n_super => k_is)
  (case v_BACK => k_is)
  (case v_FORTH => k_is)
  (case v_MOST_NODES => k_is)
  (case aC => k_is)
  (case aO => k_is)
  (case xC => k_is)
  (case xV => decide +kernel)
  (case saC => k_is)
  (case exC => k_is)
  (case tyC => k_is)
  (case kC => k_is)
  (case iI => k_is)
  (case tI => k_is)
  (case lI => k_is)
  (case cI => k_is)
  (case sI => exact ⟨rfl, rfl, rfl, rfl, rfl, by decide +kernel, by decide +kernel, rfl, rfl⟩)
  (case bI => exact fun us hl => match us, hl with | [_, _], _ => rfl)
  (case hp => rfl)
  (case har => rfl)
  (case codI => k_is)
  (case hvs => rfl)
  (case hfile => decide +kernel)
  (case cell => k_is)
  (case hD => k_is)
  (case hsub => k_is)
  (case ho => k_is)
  (case hm => kernel_rfl)
  (case hB => k_is)
  (case hno => k_is)
  (case gaC => k_is)
  (case ggC => k_is)
  (case hdC => k_is)
  (case caC => k_is)
  (case spC => k_is)
  (case tkC => k_is)
  (case obC => k_is)
  (case isC => kernel_rfl)
  (case emC => kernel_rfl)
  (case he => exact fun _ => rfl)
  (case lc => k_is)
  (case hP => rfl)
  (case nP => kernel_rfl)
#print axioms PySem.Challenge.cw_outsoonest_k15_whole_greatest_flows_and_holds
